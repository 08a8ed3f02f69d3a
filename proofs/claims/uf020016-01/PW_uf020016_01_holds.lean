import PyProof.Rows.All
import PyProof.StrBlock
import PyProof.StrBlockI
import PyProof.P3Statements
import PyProof.DictRoadsH
import PyProof.DictKinds
import PyProof.InstLoad
import PyProof.ObjNew
import PyProof.Cells
import PyProof.WalksMore
import PyProof.Calls
import PyProof.DefCall
import PyProof.RaisesMany
import PyProof.ListMulRoad
import PyProof.Rows.ListMul
import PyProof.IsiSeqPairs
import PyProof.IsiNone
import PyProof.TupleOfSeq
import PyProof.ListRange
import PyProof.WalkInts
import PyProof.CallRoads
import PyProof.StrWalks
import PyProof.RulesDelMore
import PyProof.CompFree
import PyProof.CompUse
import PyProof.WalksPairs
import PyProof.ZipIter
import PyProof.EnumFor
import Wide.All
import OpenK.AllK
import Wide.FinOn
import PySem.Challenge.RW_uf020016_01
set_option Elab.async false
set_option autoImplicit false
set_option genSizeOfSpec false
set_option linter.all false
set_option linter.unusedSimpArgs false
-- part MLang
namespace Mine
open PySem
noncomputable section

inductive Val where
  | none
  | bool (b : Bool)
  | int (i : Int)
  | str (s : Str)
  | tup (vs : List Val)
  | loc (l : Nat)
  | script (ns : List Int)
  | rng (n : Int)
  | exc (c : Nat)

/- whether two lists of values are the same -/
noncomputable def sames (a b : List Val) : Bool := @decide (a = b) (Classical.propDecidable _)
theorem sames_eq (a b : List Val) (h : sames a b = true) : a = b := @of_decide_eq_true _ (Classical.propDecidable _) h
theorem sames_refl (a : List Val) : sames a a = true := @decide_eq_true _ (Classical.propDecidable _) rfl

noncomputable abbrev Key := Int × Int

inductive HObj where
  | list (xs : List Val)
  | dict (es : List (Key × Val))
  | inst (c : Nat) (fs : List (Nat × Val))
  | hid

noncomputable abbrev Hp := List HObj

inductive Res (α : Type) where
  | ok (a : α) (H : Hp)
  | exc (c : Nat) (H : Hp)
  | bad

noncomputable def M (α : Type) := Hp → Res α

namespace M
noncomputable def ret {α : Type} (a : α) : M α := fun H => .ok a H
noncomputable def bnd {α β : Type} (m : M α) (f : α → M β) : M β := fun H =>
  match m H with
  | .ok a H' => f a H'
  | .exc c H' => .exc c H'
  | .bad => .bad
noncomputable def bad {α : Type} : M α := fun _ => .bad
noncomputable def ofOpt {α : Type} : Option α → M α
  | some a => ret a
  | none => bad
/- a look at the heap -/
noncomputable def look {α : Type} (f : Hp → Option α) : M α := fun H =>
  match f H with
  | some a => .ok a H
  | none => .bad
/- an exception is not awaited here -/
noncomputable def quiet {α : Type} (m : M α) : M α := fun H =>
  match m H with
  | .exc _ _ => .bad
  | r => r
/- a new object -/
noncomputable def alloc (o : HObj) : M Val := fun H => .ok (.loc H.length) (H ++ [o])
/- an object is exchanged -/
end M

theorem bnd_ok {α β : Type} {m : M α} {f : α → M β} {H H' : Hp} {a : α} (h : m H = .ok a H') : (m.bnd f) H = f a H' := by
  unfold M.bnd; rw [h]
theorem bnd_exc {α β : Type} {m : M α} {f : α → M β} {H H' : Hp} {c : Nat} (h : m H = .exc c H') : (m.bnd f) H = .exc c H' := by
  unfold M.bnd; rw [h]
theorem bnd_bad {α β : Type} {m : M α} {f : α → M β} {H : Hp} (h : m H = .bad) : (m.bnd f) H = .bad := by
  unfold M.bnd; rw [h]

inductive BOp where
  | add | sub | mul | fdiv | mod
inductive COp where
  | eq | ne | lt | le | gt | ge | is | isNot
inductive Ty where
  | int | bool | str | tuple | list
  | cls (c : Nat)
/- built-in functions -/
inductive BF where
  | len | range | int | sortedSet
/- built-in methods -/
inductive BM where
  | append | clear

mutual
inductive ME where
  | none
  | bool (b : Bool)
  | int (i : Int)
  | str (s : Str)
  | glob (k : Nat)
  | var (i : Nat)
  | bin (op : BOp) (a b : ME)
  | neg (a : ME)
  | not (a : ME)
  | and (a b : ME)
  | or (a b : ME)
  | cmp (op : COp) (a b : ME)
  | cmp2 (op1 op2 : COp) (a b c : ME)
  | sub (a i : ME)
  | tup (es : MEs)
  | list (es : MEs)
  | call (f : Nat) (es : MEs)
  | bf (f : BF) (es : MEs)
  | bm (a : ME) (m : BM) (es : MEs)
  | isinst (a : ME) (t : Ty)
  | comp (elt : ME) (it : ME) (cond : MEo)
inductive MEo where
  | none
  | some (e : ME)
inductive MEs where
  | nil
  | cons (e : ME) (es : MEs)
end

mutual
inductive MS where
  | pass
  | expr (e : ME)
  | assign (i : Nat) (e : ME)
  | ret (e : MEo)
  | ite (c : ME) (t f : MSs)
  | each (i : Nat) (it : ME) (body : MSs)
  | eachZip (i j : Nat) (a b : ME) (body : MSs)
inductive MSs where
  | nil
  | cons (s : MS) (ss : MSs)
end

structure MFun where
  arity : Nat
  nvars : Nat
  body : MSs

/- the static tables -/
structure Tab where
  funs : List MFun
  /- of each class: its methods, by the name's number; number 0 is __init__ -/
  meths : List (List (Nat × Nat))
  /- of each class: the classes that it stands under (itself too) -/
  subs : List (List Nat)
  globs : List Val

noncomputable def Tab.sub (T : Tab) (c d : Nat) : Bool := ((T.subs[c]?).getD []).contains d

noncomputable def lid : Nat := 16777216

/-! ## plain values -/
noncomputable def dats (f : Val → Option PyData) : List Val → Option (List PyData)
  | [] => some []
  | x :: xs =>
    match f x, dats f xs with
    | some d, some ds => some (d :: ds)
    | _, _ => none
/- a value as data, all the lists that it leads to written out -/
noncomputable def dataOf (H : Hp) : Nat → Val → Option PyData
  | 0, v =>
    match v with
    | .none => some .none
    | .bool b => some (.bool b)
    | .int i => some (.int i)
    | .str s => if PyData.strOk s = true then some (.str s) else none
    | _ => none
  | n + 1, v =>
    match v with
    | .none => some .none
    | .bool b => some (.bool b)
    | .int i => some (.int i)
    | .str s => if PyData.strOk s = true then some (.str s) else none
    | .tup vs => (dats (dataOf H n) vs).map .tuple
    | .loc l =>
      match H[l]? with
      | some (.list xs) => (dats (dataOf H n) xs).map .list
      | _ => none
    | _ => none
/- how deep two things are compared -/
noncomputable def deep : Nat := 6
noncomputable def pyEq (H : Hp) (a b : Val) : Option Bool :=
  match dataOf H deep a, dataOf H deep b with
  | some x, some y => some (PyData.eqv x y)
  | _, _ => none

/- of ints, or of tuples of the same make -/
noncomputable def dget (es : List (Key × Val)) (k : Key) : Option Val := es.lookup k
noncomputable def small (a : Int) : Bool := decide (-(2 ^ 64) < a) && decide (a < 2 ^ 64)

noncomputable def binV (op : BOp) (a b : Val) : M Val :=
  match op, a, b with
  | .add, .int x, .int y => .ret (.int (x + y))
  | .sub, .int x, .int y => .ret (.int (x - y))
  | .mul, .int x, .int y => if (small x || small y) = true then .ret (.int (x * y)) else .bad
  | .fdiv, .int x, .int y => if y = 0 ∨ 1073741824 ≤ y.natAbs then .bad else .ret (.int (Int.fdiv x y))
  | .mod, .int x, .int y => if y = 0 then .bad else .ret (.int (Int.fmod x y))
  | .add, .str x, .str y => if x.length + y.length ≤ lid then .ret (.str (x ++ y)) else .bad
  | .add, .loc x, .loc y => fun H =>
    match H[x]?, H[y]? with
    | some (.list xs), some (.list ys) => if xs.length + ys.length ≤ lid then M.alloc (.list (xs ++ ys)) H else .bad
    | _, _ => .bad
  | .mul, .loc x, .int n => fun H =>
    match H[x]? with
    | some (.list [v]) => if 0 ≤ n ∧ n ≤ 1000 then M.alloc (.list (List.replicate n.toNat v)) H else .bad
    | _ => .bad
  | _, _, _ => .bad

noncomputable def flip (neg : Bool) : Option Bool → Option Bool
  | some b => some (b ^^ neg)
  | none => none

noncomputable def isV (a b : Val) : Option Bool :=
  match b with
  | .none => some (match a with | .none => true | _ => false)
  | .bool y => (match a with | .bool x => some (x == y) | _ => none)
  | _ => none

noncomputable def cmpV (op : COp) (a b : Val) (H : Hp) : Option Bool :=
  match op with
  | .eq => pyEq H a b
  | .ne => flip true (pyEq H a b)
  | .lt => (match a, b with | .int x, .int y => some (decide (x < y)) | _, _ => none)
  | .gt => (match a, b with | .int x, .int y => some (decide (x > y)) | _, _ => none)
  | .le => (match a, b with | .int x, .int y => some (decide (x ≤ y)) | _, _ => none)
  | .ge => (match a, b with | .int x, .int y => some (decide (x ≥ y)) | _, _ => none)
  | .is => isV a b
  | .isNot => flip true (isV a b)

/-! ## items, parts -/
noncomputable def iterOf (v : Val) (H : Hp) : Option (List Val × Option Nat) :=
  match v with
  | .loc l =>
    match H[l]? with
    | some (.list xs) => some (xs, some l)
    | _ => none
  | .tup xs => some (xs, none)
  | .script ns => some (ns.map .int, none)
  | .rng n => some ((List.range n.toNat).map (fun (k : Nat) => .int (k : Int)), none)
  | .str s => some (s.cps.toList.map (fun c => .str ⟨#[c]⟩), none)
  | _ => none
noncomputable def chk (src : Option Nat) (xs : List Val) (H : Hp) : Bool :=
  match src with
  | none => true
  | some l =>
    match H[l]? with
    | some (.list ys) => sames ys xs
    | _ => false
/- what a list, tuple or the script holds -/
noncomputable def itemsOf (v : Val) (H : Hp) : Option (List Val) :=
  match v with
  | .loc l =>
    match H[l]? with
    | some (.list xs) => some xs
    | _ => none
  | .tup xs => some xs
  | .script ns => some (ns.map .int)
  | _ => none
noncomputable def placeOf (i : Int) (n : Nat) : Option Nat :=
  if 0 ≤ i then (if i < n then some i.toNat else none) else (if -(n : Int) ≤ i then some (i + n).toNat else none)
noncomputable def subV (a i : Val) : M Val := .look fun H =>
  match a, i with
  | .loc l, i =>
    match H[l]?, i with
    | some (.list xs), .int k => (placeOf k xs.length).bind fun p => xs[p]?
    | _, _ => none
  | .tup xs, .int k => if 0 ≤ k then xs[k.toNat]? else none
  | .script ns, .int k => (placeOf k ns.length).bind fun p => (ns[p]?).map .int
  | _, _ => none
noncomputable def bfV (f : BF) (args : List Val) : M Val :=
  match f, args with
  | .len, [v] => .look fun H =>
    match v with
    | .str s => some (.int s.length)
    | v => (itemsOf v H).map fun xs => .int xs.length
  | .range, [.int n] => if -1073741824 ≤ n ∧ n ≤ 1073741824 then .ret (.rng n) else .bad
  | .int, [.bool b] => .ret (.int (if b = true then 1 else 0))
  | _, _ => .bad

noncomputable def bmV (m : BM) (o : Val) (args : List Val) : M Val := fun H =>
  match o with
  | .str s =>
    match m, args with
    | _, _ => .bad
  | .loc l =>
    match H[l]? with
    | some (.list xs) =>
      match m, args with
      | .append, [v] => if xs.length < lid then .ok .none (H.set l (.list (xs ++ [v]))) else .bad
      | .clear, [] => .ok .none (H.set l (.list []))
      | _, _ => .bad
    | some (.dict _) => .bad
    | _ => .bad
  | _ => .bad

/- the built-in kinds -/
inductive Kd where
  | none | bool | int | str | tuple | list | dict
noncomputable def kdOf (H : Hp) : Val → Option Kd
  | .none => some .none
  | .bool _ => some .bool
  | .int _ => some .int
  | .str _ => some .str
  | .tup _ => some .tuple
  | .script _ => some .list
  | .loc l =>
    match H[l]? with
    | some (.list _) => some .list
    | some (.dict _) => some .dict
    | _ => none
  | _ => none
noncomputable def isKd : Ty → Kd → Bool
  | .int, .int => true
  | .int, .bool => true
  | .bool, .bool => true
  | .str, .str => true
  | .tuple, .tuple => true
  | .list, .list => true
  | _, _ => false
noncomputable def isinstV (T : Tab) (v : Val) (t : Ty) : M Val := .look fun H =>
  match t with
  | .cls d =>
    match v with
    | .exc c => some (.bool (T.sub c d))
    | .loc l =>
      match H[l]? with
      | some (.inst c _) => some (.bool (T.sub c d))
      | _ => none
    | _ => none
  | t => (kdOf H v).map fun k => .bool (isKd t k)

/- whether a thing has the method, when it is looked up -/
noncomputable def bmFits (m : BM) (o : Val) (H : Hp) : Option Unit :=
  match o with
  | .str _ =>
    match m with
    | _ => none
  | .loc l =>
    match H[l]? with
    | some (.list _) =>
      match m with
      | .append => some ()
      | .clear => some ()
    | some (.dict _) =>
      match m with
      | _ => none
    | _ => none
  | _ => none

noncomputable def truth : Val → M Bool
  | .bool b => .ret b
  | _ => .bad

noncomputable abbrev Env' := List (Option Val)
noncomputable abbrev Funs := Nat → List Val → M Val

noncomputable def compL (chk : Hp → Bool) (step : Val → M (Option Val)) : List Val → M (List Val)
  | [] => fun H => if chk H = true then .ok [] H else .bad
  | x :: xs => fun H => if chk H = true then ((step x).bnd fun r => (compL chk step xs).bnd fun ys => .ret (match r with | some y => y :: ys | none => ys)) H else .bad

mutual
noncomputable def evalE (T : Tab) (Φ : Funs) : ME → Env' → M Val
  | .none, _ => .ret .none
  | .bool b, _ => .ret (.bool b)
  | .int i, _ => .ret (.int i)
  | .str s, _ => .ret (.str s)
  | .glob k, _ => .ofOpt T.globs[k]?
  | .var i, Γ => .ofOpt (match Γ[i]? with | some (some v) => some v | _ => none)
  | .bin op a b, Γ => (evalE T Φ a Γ).bnd fun x => (evalE T Φ b Γ).bnd fun y => binV op x y
  | .neg a, Γ => (evalE T Φ a Γ).bnd fun x => match x with
    | .int i => .ret (.int (-i))
    | _ => .bad
  | .not a, Γ => (evalE T Φ a Γ).bnd fun x => (truth x).bnd fun b => .ret (.bool (!b))
  | .and a b, Γ => (evalE T Φ a Γ).bnd fun x => (truth x).bnd fun t => match t with
    | true => evalE T Φ b Γ
    | false => .ret (.bool false)
  | .or a b, Γ => (evalE T Φ a Γ).bnd fun x => (truth x).bnd fun t => match t with
    | true => .ret (.bool true)
    | false => evalE T Φ b Γ
  | .cmp op a b, Γ => (evalE T Φ a Γ).bnd fun x => (evalE T Φ b Γ).bnd fun y => (M.look (cmpV op x y)).bnd fun r => .ret (.bool r)
  | .cmp2 op1 op2 a b c, Γ => (evalE T Φ a Γ).bnd fun x => (evalE T Φ b Γ).bnd fun y => (M.look (cmpV op1 x y)).bnd fun r => match r with
    | true => (evalE T Φ c Γ).bnd fun z => (M.look (cmpV op2 y z)).bnd fun r => .ret (.bool r)
    | false => .ret (.bool false)
  | .sub a i, Γ => (evalE T Φ a Γ).bnd fun x => (evalE T Φ i Γ).bnd fun y => subV x y
  | .tup es, Γ => (evalEs T Φ es Γ).bnd fun vs => .ret (.tup vs)
  | .list es, Γ => (evalEs T Φ es Γ).bnd fun vs => M.alloc (.list vs)
  | .call f es, Γ => (evalEs T Φ es Γ).bnd fun vs => Φ f vs
  | .bf f es, Γ => (evalEs T Φ es Γ).bnd fun vs => bfV f vs
  | .bm a m es, Γ => (evalE T Φ a Γ).bnd fun o => (M.look (bmFits m o)).bnd fun _ => (evalEs T Φ es Γ).bnd fun vs => bmV m o vs
  | .isinst a t, Γ => (evalE T Φ a Γ).bnd fun x => isinstV T x t
  | .comp elt it cond, Γ => (evalE T Φ it Γ).bnd fun v => (M.look (iterOf v)).bnd fun p =>
      (M.quiet (compL (chk p.2 p.1) (fun x => (evalC T Φ cond (Γ ++ [some x])).bnd fun b => match b with
        | true => (evalE T Φ elt (Γ ++ [some x])).bnd fun y => .ret (some y)
        | false => .ret none) p.1)).bnd fun ys => if ys.length < lid then M.alloc (.list ys) else .bad
noncomputable def evalO (T : Tab) (Φ : Funs) : MEo → Env' → M Val
  | .none, _ => .ret .none
  | .some e, Γ => evalE T Φ e Γ
noncomputable def evalC (T : Tab) (Φ : Funs) : MEo → Env' → M Bool
  | .none, _ => .ret true
  | .some e, Γ => (evalE T Φ e Γ).bnd truth
noncomputable def evalEs (T : Tab) (Φ : Funs) : MEs → Env' → M (List Val)
  | .nil, _ => .ret []
  | .cons e es, Γ => (evalE T Φ e Γ).bnd fun v => (evalEs T Φ es Γ).bnd fun vs => .ret (v :: vs)
end

inductive ResS where
  | next (Γ : Env') (H : Hp)
  | ret (v : Val) (H : Hp)
  | exc (c : Nat) (Γ : Env') (H : Hp)
  | bad

noncomputable def bndS {α : Type} (m : M α) (Γ : Env') (f : α → Hp → ResS) (H : Hp) : ResS :=
  match m H with
  | .ok a H' => f a H'
  | .exc c H' => .exc c Γ H'
  | .bad => .bad
noncomputable def thenS (r : ResS) (f : Env' → Hp → ResS) : ResS :=
  match r with
  | .next Γ H => f Γ H
  | .ret v H => .ret v H
  | .exc c Γ H => .exc c Γ H
  | .bad => .bad

noncomputable def eachL (chk : Hp → Bool) (bind : Val → Env' → Option Env') (body : Env' → Hp → ResS) : List Val → Env' → Hp → ResS
  | [], Γ, H => if chk H = true then .next Γ H else .bad
  | x :: xs, Γ, H => if chk H = true then (match bind x Γ with
    | some Γ' => (match body Γ' H with
      | .exc _ _ _ => .bad
      | r => thenS r (eachL chk bind body xs))
    | none => .bad) else .bad
noncomputable def pairUp : List Val → List Val → List Val
  | a :: as, b :: bs => .tup [a, b] :: pairUp as bs
  | _, _ => []
noncomputable def bind1 (i : Nat) (v : Val) (Γ : Env') : Option Env' := some (Γ.set i (some v))
noncomputable def bind2 (i j : Nat) (v : Val) (Γ : Env') : Option Env' :=
  match v with
  | .tup [a, b] => some ((Γ.set i (some a)).set j (some b))
  | _ => none
noncomputable def listOf (v : Val) (H : Hp) : Option (List Val × Nat) :=
  match v with
  | .loc l =>
    match H[l]? with
    | some (.list xs) => some (xs, l)
    | _ => none
  | _ => none
noncomputable def isHid (l : Nat) (H : Hp) : Bool :=
  match H[l]? with
  | some .hid => true
  | _ => false

mutual
noncomputable def execS (T : Tab) (Φ : Funs) : MS → Env' → Hp → ResS
  | .pass, Γ, H => .next Γ H
  | .expr e, Γ, H => bndS (evalE T Φ e Γ) Γ (fun _ H => .next Γ H) H
  | .assign i e, Γ, H => bndS (evalE T Φ e Γ) Γ (fun v H => .next (Γ.set i (some v)) H) H
  | .ret e, Γ, H => bndS (evalO T Φ e Γ) Γ (fun v H => .ret v H) H
  | .ite c t f, Γ, H => bndS ((evalE T Φ c Γ).bnd truth) Γ (fun b => match b with
    | true => execSs T Φ t Γ
    | false => execSs T Φ f Γ) H
  | .each i it body, Γ, H => bndS (evalE T Φ it Γ) Γ (fun v => bndS (M.look (iterOf v)) Γ fun p => eachL (chk p.2 p.1) (bind1 i) (execSs T Φ body) p.1 Γ) H
  | .eachZip i j a b body, Γ, H => bndS (evalE T Φ a Γ) Γ (fun v => bndS (evalE T Φ b Γ) Γ fun w => bndS (M.look (listOf v)) Γ fun p => bndS (M.look (listOf w)) Γ fun q => fun H =>
      if p.1.length = q.1.length then eachL (fun H' => chk (some p.2) p.1 H' && chk (some q.2) q.1 H' && isHid H.length H') (bind2 i j) (execSs T Φ body) (pairUp p.1 q.1) Γ (H ++ [.hid]) else .bad) H
noncomputable def execSs (T : Tab) (Φ : Funs) : MSs → Env' → Hp → ResS
  | .nil, Γ, H => .next Γ H
  | .cons s ss, Γ, H => thenS (execS T Φ s Γ H) (execSs T Φ ss)
end

/- what a body's end gives back -/
noncomputable def resOf : ResS → Res Val
  | .next _ H' => .ok .none H'
  | .ret v H' => .ok v H'
  | .exc _ _ _ => .bad
  | .bad => .bad
noncomputable def runF (T : Tab) (Φ : Funs) (f : MFun) (args : List Val) : M Val := fun H =>
  if args.length = f.arity then resOf (execSs T Φ f.body (args.map some ++ List.replicate f.nvars none) H) else .bad
noncomputable def callF (T : Tab) : Nat → Funs
  | 0, _, _ => .bad
  | d + 1, k, args =>
    match T.funs[k]? with
    | none => .bad
    | some f => runF T (callF T d) f args
end
end Mine

-- part MRel
namespace Mine
open PySem

noncomputable abbrev Rho := List (Addr × Addr)
noncomputable def Owned (ρ : Rho) (a : Addr) : Prop := ∃ p ∈ ρ, a = p.1 ∨ a = p.2
noncomputable def Grow (ρ : Rho) (h : Heap) (ρ' : Rho) : Prop := ∃ e, ρ' = ρ ++ e ∧ ∀ p ∈ e, h.get? p.1 = none ∧ h.get? p.2 = none
noncomputable def Live (h h' : Heap) : Prop := ∀ b o, h.get? b = some o → ∃ o', h'.get? b = some o'
theorem Live.refl (h : Heap) : Live h h := fun _ o e => ⟨o, e⟩
theorem Live.trans {h h' h'' : Heap} (x : Live h h') (y : Live h' h'') : Live h h'' := fun b o e => let ⟨o', e'⟩ := x b o e; y b o' e'
theorem Live.none {h h' : Heap} (x : Live h h') {a : Addr} (e : h'.get? a = none) : h.get? a = none := by
  cases q : h.get? a with
  | none => rfl
  | some o => obtain ⟨o', e'⟩ := x a o q; rw [e] at e'; cases e'
theorem fresh_none (h : Heap) : h.get? h.objs.size = none := by
  cases q : h.get? h.objs.size with
  | none => rfl
  | some o => exact absurd (Heap.lt_size q) (Nat.lt_irrefl _)
theorem fresh_le {h : Heap} {a : Addr} (z : h.objs.size ≤ a) : h.get? a = none := by
  cases q : h.get? a with
  | none => rfl
  | some o => exact absurd (Heap.lt_size q) (Nat.not_lt.mpr z)
/- a frame's slots may be turned -/
noncomputable def SameUp (o o' : Obj) : Prop := o' = o ∨ ((∃ es n, o.data = .dict es n) ∧ o' = { o with slots := o'.slots })
theorem SameUp.refl (o : Obj) : SameUp o o := .inl rfl
theorem SameUp.trans {o o' o'' : Obj} (x : SameUp o o') (y : SameUp o' o'') : SameUp o o'' := by
  rcases x with rfl | ⟨c, e⟩
  · exact y
  · rcases y with rfl | ⟨_, e'⟩
    · exact .inr ⟨c, e⟩
    · exact .inr ⟨c, by rw [e', e]⟩
theorem SameUp.exact {o o' : Obj} (x : SameUp o o') (n : ∀ es n, o.data ≠ .dict es n) : o' = o := x.elim id fun ⟨⟨es, k, e⟩, _⟩ => absurd e (n es k)
theorem SameUp.data {o o' : Obj} (x : SameUp o o') : o'.data = o.data := by rcases x with rfl | ⟨_, e⟩; rfl; rw [e]
noncomputable def Keep (ρ : Rho) (h h' : Heap) : Prop := ∀ b o, h.get? b = some o → ¬ Owned ρ b → ∃ o', h'.get? b = some o' ∧ SameUp o o'
theorem Keep.exact {ρ : Rho} {h h' : Heap} (k : Keep ρ h h') {b : Addr} {o : Obj} (e : h.get? b = some o) (n : ¬ Owned ρ b) (c : ∀ es n, o.data ≠ .dict es n) : h'.get? b = some o := by
  obtain ⟨o', e', u⟩ := k b o e n
  rw [e', u.exact c]
/- kinds that never change -/
noncomputable def Fixed (o : Obj) : Prop := (o.cls = .type "tuple" ∧ ∃ xs n, o.data = .seq xs n) ∨ (o.cls = .type "range" ∧ ∃ vs, o.data = .fields vs)
noncomputable def IsExcO (o : Obj) (C : Addr) : Prop := o.cls = .ref C ∧ ∃ vs, o.data = .fields vs
theorem Fixed.notDict {o : Obj} (f : Fixed o) (es : Array DictEntry) (n : Nat) : o.data ≠ .dict es n := by
  rcases f with ⟨_, xs, k, e⟩ | ⟨_, vs, e⟩ <;> rw [e] <;> exact fun q => nomatch q
theorem IsExcO.notDict {o : Obj} {C : Addr} (f : IsExcO o C) (es : Array DictEntry) (n : Nat) : o.data ≠ .dict es n := by
  obtain ⟨_, vs, e⟩ := f
  rw [e]; exact fun q => nomatch q

theorem Grow.refl (ρ : Rho) (h : Heap) : Grow ρ h ρ := ⟨[], by simp, by simp⟩
theorem Grow.owned {ρ ρ' : Rho} {h : Heap} (g : Grow ρ h ρ') {a : Addr} (o : Owned ρ' a) : Owned ρ a ∨ h.get? a = none := by
  obtain ⟨e, rfl, he⟩ := g
  obtain ⟨p, hp, hpa⟩ := o
  rcases List.mem_append.mp hp with hp | hp
  · exact .inl ⟨p, hp, hpa⟩
  · right
    rcases hpa with rfl | rfl
    · exact (he p hp).1
    · exact (he p hp).2
theorem Grow.sub {ρ ρ' : Rho} {h : Heap} (g : Grow ρ h ρ') {a : Addr} (o : Owned ρ a) : Owned ρ' a := by
  obtain ⟨e, rfl, he⟩ := g
  obtain ⟨p, hp, hpa⟩ := o
  exact ⟨p, List.mem_append.mpr (.inl hp), hpa⟩
theorem Grow.get {ρ ρ' : Rho} {h : Heap} (g : Grow ρ h ρ') {l : Nat} {p : Addr × Addr} (e : ρ[l]? = some p) : ρ'[l]? = some p := by
  obtain ⟨e', rfl, he⟩ := g
  obtain ⟨hl, _⟩ := List.getElem?_eq_some_iff.mp e
  rw [List.getElem?_append_left hl, e]
theorem Grow.not {ρ ρ' : Rho} {h : Heap} (g : Grow ρ h ρ') {a : Addr} {o : Obj} (n : ¬ Owned ρ a) (e : h.get? a = some o) : ¬ Owned ρ' a := fun w => by
  rcases g.owned w with w | w
  · exact n w
  · rw [e] at w; cases w
theorem Grow.trans {ρ ρ' ρ'' : Rho} {h h' : Heap} (x : Grow ρ h ρ') (y : Grow ρ' h' ρ'') (z : Live h h') : Grow ρ h ρ'' := by
  obtain ⟨e1, rfl, h1⟩ := x
  obtain ⟨e2, rfl, h2⟩ := y
  refine ⟨e1 ++ e2, by rw [List.append_assoc], fun p hp => ?_⟩
  rcases List.mem_append.mp hp with hp | hp
  · exact h1 p hp
  · exact ⟨z.none (h2 p hp).1, z.none (h2 p hp).2⟩

/- what values lean on stands -/
structure Step (ρ : Rho) (h : Heap) (ρ' : Rho) (h' : Heap) : Prop where
  more : ∃ e, ρ' = ρ ++ e
  keepT : ∀ b o, h.get? b = some o → Fixed o → ¬ Owned ρ b → h'.get? b = some o ∧ ¬ Owned ρ' b
  keepC : ∀ b o C, h.get? b = some o → IsExcO o C → ¬ Owned ρ b → ∃ o', h'.get? b = some o' ∧ IsExcO o' C ∧ ¬ Owned ρ' b
theorem Step.get {ρ ρ' : Rho} {h h' : Heap} (st : Step ρ h ρ' h') {l : Nat} {p : Addr × Addr} (e : ρ[l]? = some p) : ρ'[l]? = some p := by
  obtain ⟨e', rfl⟩ := st.more
  obtain ⟨hl, _⟩ := List.getElem?_eq_some_iff.mp e
  rw [List.getElem?_append_left hl, e]
/- all that is not owned stands -/
structure Full (ρ : Rho) (h : Heap) (ρ' : Rho) (h' : Heap) : Prop where
  grow : Grow ρ h ρ'
  keep : Keep ρ h h'
  live : Live h h'
theorem Full.step {ρ ρ' : Rho} {h h' : Heap} (x : Full ρ h ρ' h') : Step ρ h ρ' h' :=
  ⟨let ⟨e, h1, _⟩ := x.grow; ⟨e, h1⟩, fun b o e f n => ⟨x.keep.exact e n f.notDict, x.grow.not n e⟩, fun b o C e c n => ⟨o, x.keep.exact e n c.notDict, c, x.grow.not n e⟩⟩
theorem Full.refl (ρ : Rho) (h : Heap) : Full ρ h ρ h := ⟨Grow.refl ρ h, fun _ o e _ => ⟨o, e, .refl o⟩, .refl h⟩
theorem Step.refl (ρ : Rho) (h : Heap) : Step ρ h ρ h := (Full.refl ρ h).step
theorem Full.trans {ρ ρ' ρ'' : Rho} {h h' h'' : Heap} (x : Full ρ h ρ' h') (y : Full ρ' h' ρ'' h'') : Full ρ h ρ'' h'' :=
  ⟨x.grow.trans y.grow x.live, fun b o e n => by
      obtain ⟨o', e', u⟩ := x.keep b o e n
      obtain ⟨o'', e'', u'⟩ := y.keep b o' e' (x.grow.not n e)
      exact ⟨o'', e'', u.trans u'⟩, x.live.trans y.live⟩
/- objects are only added -/
theorem Full.more {ρ : Rho} {h h' : Heap} (k : ∀ b o, h.get? b = some o → h'.get? b = some o) : Full ρ h ρ h' :=
  ⟨Grow.refl ρ h, fun b o e _ => ⟨o, k b o e, .refl o⟩, fun b o e => ⟨o, k b o e⟩⟩
theorem Full.push (ρ : Rho) (h : Heap) (o : Obj) : Full ρ h ρ (h.push o) := Full.more fun _ _ e => Heap.get?_push_of_some _ e
theorem Full.alloc {ρ : Rho} {h h' : Heap} {p : Addr × Addr} (k : ∀ b o, h.get? b = some o → h'.get? b = some o) (hp : h.get? p.1 = none ∧ h.get? p.2 = none) : Full ρ h (ρ ++ [p]) h' :=
  ⟨⟨[p], rfl, fun q hq => by rw [List.mem_singleton.mp hq]; exact hp⟩, fun b o e _ => ⟨o, k b o e, .refl o⟩, fun b o e => ⟨o, k b o e⟩⟩
/- all stands but one object that no value leans on -/
theorem Step.ext {ρ : Rho} {h h' : Heap} {a : Addr} {o : Obj} (e : h.get? a = some o) (hs : Heap.ExtBut a h h') (n1 : ¬ Fixed o) (n2 : ∀ C, ¬ IsExcO o C) : Step ρ h ρ h' :=
  ⟨⟨[], by simp⟩, fun b ob eb f no => ⟨hs b ob (fun q => by subst q; rw [e] at eb; cases eb; exact n1 f) eb, no⟩,
    fun b ob C eb c no => ⟨ob, hs b ob (fun q => by subst q; rw [e] at eb; cases eb; exact n2 C c) eb, c, no⟩⟩
/- one object that no value leans on is turned -/
theorem SameBut.live {h h' : Heap} {a : Addr} {o' : Obj} (hs : Heap.SameBut a h h') (e' : h'.get? a = some o') : Live h h' := fun b o e => by
  by_cases q : b = a
  · subst q; exact ⟨o', e'⟩
  · exact ⟨o, by rw [hs.2 b q]; exact e⟩
theorem Step.but {ρ : Rho} {h h' : Heap} {a : Addr} {o o' : Obj} (e' : h'.get? a = some o') (e : h.get? a = some o) (hs : Heap.SameBut a h h') (n1 : ¬ Fixed o) (n2 : ∀ C, ¬ IsExcO o C) : Step ρ h ρ h' :=
  ⟨⟨[], by simp⟩, fun b ob eb f no => by
      by_cases q : b = a
      · subst q; rw [e] at eb; cases eb; exact absurd f n1
      · rw [hs.2 b q]; exact ⟨eb, no⟩,
    fun b ob C eb c no => by
      by_cases q : b = a
      · subst q; rw [e] at eb; cases eb; exact absurd c (n2 C)
      · exact ⟨ob, by rw [hs.2 b q]; exact eb, c, no⟩⟩
/- an owned object is turned -/
theorem Full.own {ρ : Rho} {h h' : Heap} {a : Addr} {o' : Obj} (o : Owned ρ a) (e' : h'.get? a = some o') (hs : Heap.SameBut a h h') : Full ρ h ρ h' :=
  ⟨Grow.refl ρ h, fun b ob eb n => by
      have q : b ≠ a := fun q => n (q ▸ o)
      exact ⟨ob, by rw [hs.2 b q]; exact eb, .refl ob⟩, SameBut.live hs e'⟩

/- what is static about the text -/
structure Cx where
  prog : Program
  w : World
  T : Tab
  s₀ : Shared
  cls : List Value
  attrs : List Str
  fns : List Addr
noncomputable def Cx.h₀ (cx : Cx) : Heap := cx.s₀.heap

noncomputable def listO (vs : List Value) (n : Nat) : Obj := { cls := .type "list", dict := none, data := .seq vs.toArray n, slots := #[] }
noncomputable def tupO (vs : List Value) (n : Nat) : Obj := { cls := .type "tuple", dict := none, data := .seq vs.toArray n, slots := #[] }

mutual
inductive VR (cx : Cx) (ρ : Rho) (h : Heap) : Val → Value → Prop
  | none : VR cx ρ h .none .none
  | bool (b : Bool) : VR cx ρ h (.bool b) (.bool b)
  | int (i : Int) (t : Tok) : VR cx ρ h (.int i) (.int i t)
  | str (s : Str) (t : Tok) : s.length ≤ sizeLine → VR cx ρ h (.str s) (.str s t)
  | tup {a : Addr} {vs : List Value} {n : Nat} {ms : List Val} : h.get? a = some (tupO vs n) → ¬ Owned ρ a → ms.length ≤ sizeLine → VRs cx ρ h ms vs → VR cx ρ h (.tup ms) (.ref a)
  | loc {l : Nat} {p : Addr × Addr} : ρ[l]? = some p → VR cx ρ h (.loc l) (.ref p.1)
  | script {a : Addr} {vs : List Value} {n : Nat} {ns : List Int} : cx.h₀.get? a = some (listO vs n) → ns.length ≤ sizeLine → VRs cx ρ h (ns.map .int) vs → VR cx ρ h (.script ns) (.ref a)
  | rng {a : Addr} {i : Int} {t u v : Tok} : IsRange h a 0 i 1 t u v → ¬ Owned ρ a → -(2 ^ 62) ≤ i → i < 2 ^ 62 → VR cx ρ h (.rng i) (.ref a)
  | exc {a : Addr} {o : Obj} {c : Nat} {C : Addr} : h.get? a = some o → ¬ Owned ρ a → cx.cls[c]? = some (.ref C) → IsExcO o C → VR cx ρ h (.exc c) (.ref a)
inductive VRs (cx : Cx) (ρ : Rho) (h : Heap) : List Val → List Value → Prop
  | nil : VRs cx ρ h [] []
  | cons {m : Val} {v : Value} {ms : List Val} {vs : List Value} : VR cx ρ h m v → VRs cx ρ h ms vs → VRs cx ρ h (m :: ms) (v :: vs)
end

mutual
theorem VR.step {cx : Cx} {ρ ρ' : Rho} {h h' : Heap} (st : Step ρ h ρ' h') : ∀ {m : Val} {v : Value}, VR cx ρ h m v → VR cx ρ' h' m v
  | _, _, .none => .none
  | _, _, .bool b => .bool b
  | _, _, .int i t => .int i t
  | _, _, .str s t z => .str s t z
  | _, _, .tup e n z r => .tup (st.keepT _ _ e (.inl ⟨rfl, _, _, rfl⟩) n).1 (st.keepT _ _ e (.inl ⟨rfl, _, _, rfl⟩) n).2 z (VRs.step st r)
  | _, _, .loc e => .loc (st.get e)
  | _, _, .script e z r => .script e z (VRs.step st r)
  | _, _, .rng e n z1 z2 => .rng (st.keepT _ _ e (.inr ⟨rfl, _, rfl⟩) n).1 (st.keepT _ _ e (.inr ⟨rfl, _, rfl⟩) n).2 z1 z2
  | _, _, .exc e n k c => by
    obtain ⟨o', e', c', n'⟩ := st.keepC _ _ _ e c n
    exact .exc e' n' k c'
theorem VRs.step {cx : Cx} {ρ ρ' : Rho} {h h' : Heap} (st : Step ρ h ρ' h') : ∀ {ms : List Val} {vs : List Value}, VRs cx ρ h ms vs → VRs cx ρ' h' ms vs
  | _, _, .nil => .nil
  | _, _, .cons a r => .cons (VR.step st a) (VRs.step st r)
end
section
variable {cx : Cx} {ρ : Rho} {h : Heap} {ms ms' : List Val} {vs vs' : List Value} {m : Val} {v : Value}
theorem VRs.length (r : VRs cx ρ h ms vs) : ms.length = vs.length := by
  induction ms generalizing vs with
  | nil => cases r; rfl
  | cons m ms ih => cases r with | cons a r => rw [List.length_cons, List.length_cons, ih r]
theorem VRs.append (r : VRs cx ρ h ms vs) (r' : VRs cx ρ h ms' vs') : VRs cx ρ h (ms ++ ms') (vs ++ vs') := by
  induction ms generalizing vs with
  | nil => cases r; exact r'
  | cons m ms ih => cases r with | cons a r => exact .cons a (ih r)
theorem VRs.get (r : VRs cx ρ h ms vs) {k : Nat} (e : ms[k]? = some m) : ∃ v, vs[k]? = some v ∧ VR cx ρ h m v := by
  induction ms generalizing vs k with
  | nil => simp at e
  | cons m' ms ih =>
    cases r with
    | cons a r =>
      cases k with
      | zero => simp at e; subst e; exact ⟨_, by simp, a⟩
      | succ k => simp at e; obtain ⟨v, hv, hr⟩ := ih r e; exact ⟨v, by simpa using hv, hr⟩
theorem VRs.one (r : VR cx ρ h m v) : VRs cx ρ h [m] [v] := .cons r .nil
theorem VRs.set (r : VRs cx ρ h ms vs) (k : Nat) (a : VR cx ρ h m v) : VRs cx ρ h (ms.set k m) (vs.set k v) := by
  induction ms generalizing vs k with
  | nil => cases r; exact .nil
  | cons m' ms ih =>
    cases r with
    | cons b r =>
      cases k with
      | zero => exact .cons a r
      | succ k => exact .cons b (ih r k)
theorem VRs.take (r : VRs cx ρ h ms vs) (k : Nat) : VRs cx ρ h (ms.take k) (vs.take k) := by
  induction ms generalizing vs k with
  | nil => cases r; simp; exact .nil
  | cons m' ms ih =>
    cases r with
    | cons b r =>
      cases k with
      | zero => exact .nil
      | succ k => exact .cons b (ih r k)
theorem VRs.drop (r : VRs cx ρ h ms vs) (k : Nat) : VRs cx ρ h (ms.drop k) (vs.drop k) := by
  induction ms generalizing vs k with
  | nil => cases r; simp; exact .nil
  | cons m' ms ih =>
    cases r with
    | cons b r =>
      cases k with
      | zero => exact .cons b r
      | succ k => exact ih r k
theorem VRs.replicate (a : VR cx ρ h m v) (n : Nat) : VRs cx ρ h (List.replicate n m) (List.replicate n v) := by
  induction n with
  | zero => exact .nil
  | succ n ih => exact .cons a ih
end

noncomputable abbrev cellKind (cx : Cx) : HeapKind cx.prog cx.w (List Int) := tupleKind (intKind cx.prog cx.w)

inductive DRs (cx : Cx) (ρ : Rho) (h : Heap) : List (Key × Val) → List (List Int × Addr × Value) → Prop
  | nil : DRs cx ρ h [] []
  | cons {k : Key} {v : Val} {b : Addr} {x : Value} {es : List (Key × Val)} {xs : List (List Int × Addr × Value)} :
      VR cx ρ h v x → ¬ Owned ρ b → DRs cx ρ h es xs → DRs cx ρ h ((k, v) :: es) (([k.1, k.2], b, x) :: xs)
theorem DRs.step {cx : Cx} {ρ ρ' : Rho} {h h' : Heap} (st : Step ρ h ρ' h') {es : List (Key × Val)} {xs : List (List Int × Addr × Value)} (hk : ∀ x ∈ xs, (cellKind cx).is h x.1 x.2.1) (r : DRs cx ρ h es xs) : DRs cx ρ' h' es xs := by
  induction r with
  | nil => exact .nil
  | @cons k v b x es xs a n _ ih =>
    refine .cons (a.step st) ?_ (ih fun x hx => hk x (.tail _ hx))
    obtain ⟨o, _, _, ho, hc, hd, _⟩ := hk _ (.head _)
    exact (st.keepT _ _ ho (.inl ⟨hc, _, _, hd⟩) n).2

/- the object that stands for one of the mini heap's -/
inductive HR (cx : Cx) (ρ : Rho) (h : Heap) : HObj → Addr × Addr → Prop
  | list {a : Addr} {vs : List Value} {n : Nat} {xs : List Val} : h.get? a = some (listO vs n) → VRs cx ρ h xs vs → xs.length ≤ sizeLine → HR cx ρ h (.list xs) (a, a)
  | dict {a : Addr} {es : List (Key × Val)} {xs : List (List Int × Addr × Value)} : h.DictOfH (cellKind cx) a xs → DRs cx ρ h es xs → es.length ≤ sizeLine → HR cx ρ h (.dict es) (a, a)
  | inst {a d C : Addr} {o : Obj} {c : Nat} {fs : List (Nat × Val)} {mA : Str → Option Value} : cx.cls[c]? = some (.ref C) → h.get? a = some o → o.cls = .ref C → o.data = .plain → o.dict = some d → d ≠ a → h.Ns1 d mA →
      (∀ n v, fs.lookup n = some v → ∃ y x, cx.attrs[n]? = some y ∧ mA y = some x ∧ VR cx ρ h v x) →
      (∀ y, mA y ≠ none → ∃ n v, cx.attrs[n]? = some y ∧ fs.lookup n = some v) →
      HR cx ρ h (.inst c fs) (a, d)
  | hid {a : Addr} {x y : Value} : h.get? a = some (tupO [x, y] 0) → HR cx ρ h .hid (a, a)

structure Rel (cx : Cx) (H : Hp) (ρ : Rho) (s : Shared) : Prop where
  len : H.length = ρ.length
  objs : ∀ (l : Nat) (o : HObj) (p : Addr × Addr), H[l]? = some o → ρ[l]? = some p → HR cx ρ s.heap o p
  apart : ∀ (i j : Nat) (p q : Addr × Addr), i ≠ j → ρ[i]? = some p → ρ[j]? = some q → (p.1 ≠ q.1 ∧ p.1 ≠ q.2) ∧ (p.2 ≠ q.1 ∧ p.2 ≠ q.2)
  new : ∀ p ∈ ρ, cx.h₀.get? p.1 = none ∧ cx.h₀.get? p.2 = none
  high : ∀ p ∈ ρ, sysModules < p.1
  base : ∀ b o, cx.h₀.get? b = some o → s.heap.get? b = some o
  low : sysModules < s.heap.objs.size
  sys : ∃ o, cx.h₀.get? sysModules = some o
  rest : ∃ h tk, s = { cx.s₀ with heap := h, toks := tk }

theorem Rel.size {cx : Cx} {H : Hp} {ρ : Rho} {s : Shared} (R : Rel cx H ρ s) : ∀ p ∈ ρ, (∃ o, s.heap.get? p.1 = some o) ∧ ∃ o, s.heap.get? p.2 = some o := by
  intro p hp
  obtain ⟨l, hl, e⟩ := List.mem_iff_getElem.mp hp
  have e' : ρ[l]? = some p := by rw [List.getElem?_eq_getElem hl, e]
  have hH : l < H.length := by rw [R.len]; exact hl
  obtain ⟨ob, hob⟩ : ∃ ob, H[l]? = some ob := ⟨_, List.getElem?_eq_getElem hH⟩
  have := R.objs l ob p hob e'
  clear e e'
  cases this with
  | list q _ _ => exact ⟨⟨_, q⟩, _, q⟩
  | dict q _ _ => obtain ⟨o, _, _, q, _⟩ := q; exact ⟨⟨_, q⟩, _, q⟩
  | inst _ q _ _ _ _ n _ _ => obtain ⟨o', _, _, q', _⟩ := n; exact ⟨⟨_, q⟩, _, q'⟩
  | hid q => exact ⟨⟨_, q⟩, _, q⟩
theorem Rel.owned_lt {cx : Cx} {H : Hp} {ρ : Rho} {s : Shared} (R : Rel cx H ρ s) {a : Addr} (o : Owned ρ a) : ∃ o, s.heap.get? a = some o := by
  obtain ⟨p, hp, rfl | rfl⟩ := o
  · exact (R.size p hp).1
  · exact (R.size p hp).2
theorem Rel.owned_new {cx : Cx} {H : Hp} {ρ : Rho} {s : Shared} (R : Rel cx H ρ s) {a : Addr} (o : Owned ρ a) : cx.h₀.get? a = none := by
  obtain ⟨p, hp, rfl | rfl⟩ := o
  · exact (R.new p hp).1
  · exact (R.new p hp).2
theorem Rel.base_not {cx : Cx} {H : Hp} {ρ : Rho} {s : Shared} (R : Rel cx H ρ s) {a : Addr} {o : Obj} (e : cx.h₀.get? a = some o) : ¬ Owned ρ a := fun w => by rw [R.owned_new w] at e; cases e

/- an object's own addresses stand as they stood -/
theorem HR.step {cx : Cx} {ρ ρ' : Rho} {h h' : Heap} {o : HObj} {p : Addr × Addr} (x : HR cx ρ h o p) (st : Step ρ h ρ' h') (k : ∀ b ob, (b = p.1 ∨ b = p.2) → h.get? b = some ob → h'.get? b = some ob) : HR cx ρ' h' o p := by
  cases x with
  | list e r z => exact .list (k _ _ (.inl rfl) e) (r.step st) z
  | @dict a es xs D r z =>
    obtain ⟨ob, es', ep, e, ex, d, el, ks, nd⟩ := D
    have ks' : ∀ x ∈ xs, (cellKind cx).is h' x.1 x.2.1 := by
      intro x hx
      obtain ⟨ok, items, n, hk, hc, hd', rest⟩ := ks x hx
      refine ⟨ok, items, n, (st.keepT _ _ hk (.inl ⟨hc, _, _, hd'⟩) ?_).1, hc, hd', rest⟩
      clear rest el nd z ks d ex e k
      induction r with
      | nil => cases hx
      | cons a n _ ih =>
        cases hx with
        | head => exact n
        | tail _ hx => exact ih hx
    exact .dict ⟨ob, es', ep, k _ _ (.inl rfl) e, ex, d, el, ks', nd⟩ (r.step st ks) z
  | hid e => exact .hid (k _ _ (.inl rfl) e)
  | inst c e k1 k2 k3 k4 n f g =>
    refine .inst c (k _ _ (.inl rfl) e) k1 k2 k3 k4 (n.at fun o e => k _ _ (.inr rfl) e) (fun i v hv => ?_) g
    obtain ⟨y, x, h1, h2, h3⟩ := f i v hv
    exact ⟨y, x, h1, h2, h3.step st⟩

section
variable {cx : Cx} {H : Hp} {ρ : Rho} {s : Shared}
theorem Rel.lowK (R : Rel cx H ρ s) {h' : Heap} (k : Live s.heap h') : sysModules < h'.objs.size := by
  obtain ⟨o, e⟩ := R.sys
  obtain ⟨o', e'⟩ := k _ o (R.base _ o e)
  exact Heap.lt_size e'
/- nothing owned is turned -/
theorem Rel.same (R : Rel cx H ρ s) {h' : Heap} {tk : Nat} (st : Step ρ s.heap ρ h') (ko : ∀ b o, Owned ρ b → s.heap.get? b = some o → h'.get? b = some o) (kb : ∀ b o, cx.h₀.get? b = some o → h'.get? b = some o) :
    Rel cx H ρ { s with heap := h', toks := tk } := by
  refine ⟨R.len, fun l o p hl hp => ?_, R.apart, R.new, R.high, kb, (by obtain ⟨o, e⟩ := R.sys; exact Heap.lt_size (kb _ o e)), R.sys, ?_⟩
  · refine (R.objs l o p hl hp).step st fun b ob hb e => ko b ob ⟨p, List.mem_of_getElem? hp, hb⟩ e
  · obtain ⟨h, t, rfl⟩ := R.rest
    exact ⟨h', tk, rfl⟩
theorem Rel.toks (R : Rel cx H ρ s) (tk : Nat) : Rel cx H ρ { s with toks := tk } :=
  R.same (h' := s.heap) (Step.refl _ _) (fun _ _ _ e => e) R.base
theorem Rel.more (R : Rel cx H ρ s) {h' : Heap} {tk : Nat} (k : ∀ b o, s.heap.get? b = some o → h'.get? b = some o) : Rel cx H ρ { s with heap := h', toks := tk } :=
  R.same (Full.more k).step (fun b o _ e => k b o e) fun b o e => k b o (R.base b o e)
theorem Rel.push (R : Rel cx H ρ s) (o : Obj) (tk : Nat) : Rel cx H ρ { s with heap := s.heap.push o, toks := tk } :=
  R.more fun _ _ e => Heap.get?_push_of_some _ e
/- an object that is not owned, not the base's, and that no value leans on is turned -/
theorem Rel.but (R : Rel cx H ρ s) {h' : Heap} {tk : Nat} {a : Addr} {o : Obj} {o' : Obj} (e' : h'.get? a = some o') (e : s.heap.get? a = some o) (hs : Heap.SameBut a s.heap h') (n1 : ¬ Fixed o) (n2 : ∀ C, ¬ IsExcO o C) (no : ¬ Owned ρ a) (nb : cx.h₀.get? a = none) :
    Rel cx H ρ { s with heap := h', toks := tk } :=
  R.same (Step.but e' e hs n1 n2) (fun b ob ho eb => by rw [hs.2 b (fun q => no (q ▸ ho))]; exact eb) fun b ob eb => by
    rw [hs.2 b (fun q => by subst q; rw [nb] at eb; cases eb)]; exact R.base b ob eb
theorem Rel.fresh_not (R : Rel cx H ρ s) {a : Addr} (ha : s.heap.get? a = none) : ¬ Owned ρ a := fun w => by obtain ⟨o, e⟩ := R.owned_lt w; rw [ha] at e; cases e
/- a new object -/
theorem Rel.alloc (R : Rel cx H ρ s) {h' : Heap} {tk : Nat} {o : HObj} {p : Addr × Addr} (k : ∀ b o, s.heap.get? b = some o → h'.get? b = some o)
    (hp : s.heap.get? p.1 = none ∧ s.heap.get? p.2 = none) (hz : s.heap.objs.size ≤ p.1) (x : HR cx (ρ ++ [p]) h' o p) : Full ρ s.heap (ρ ++ [p]) h' ∧ Rel cx (H ++ [o]) (ρ ++ [p]) { s with heap := h', toks := tk } := by
  have F : Full ρ s.heap (ρ ++ [p]) h' := ⟨⟨[p], rfl, fun q hq => by rw [List.mem_singleton.mp hq]; exact hp⟩, fun b o e _ => ⟨o, k b o e, .refl o⟩, fun b o e => ⟨o, k b o e⟩⟩
  refine ⟨F, ⟨by rw [List.length_append, List.length_append, R.len]; rfl, fun l ob q hl hq => ?_, fun i j q r hij hi hj => ?_, fun q hq => ?_, fun q hq => ?_, fun b o e => k b o (R.base b o e), R.lowK (fun b o e => ⟨o, k b o e⟩), R.sys, ?_⟩⟩
  · by_cases lt : l < H.length
    · rw [List.getElem?_append_left lt] at hl
      rw [List.getElem?_append_left (by rw [← R.len]; exact lt)] at hq
      exact (R.objs l ob q hl hq).step F.step fun b ob _ e => k b ob e
    · have hl' := (List.getElem?_eq_some_iff.mp hl).1
      have le : l = H.length := by rw [List.length_append] at hl'; simp at hl'; omega
      subst le
      rw [List.getElem?_append_right (Nat.le_refl _)] at hl
      rw [List.getElem?_append_right (by rw [R.len]; exact Nat.le_refl _)] at hq
      rw [R.len] at hq
      simp at hl hq
      subst hl hq
      exact x
  · have old : ∀ {i : Nat} {q : Addr × Addr}, ρ[i]? = some q → (∃ o, s.heap.get? q.1 = some o) ∧ ∃ o, s.heap.get? q.2 = some o := fun h => R.size _ (List.mem_of_getElem? h)
    have ne : ∀ {a b : Addr}, (∃ o, s.heap.get? a = some o) → s.heap.get? b = none → a ≠ b := fun ⟨o, e⟩ n q => by rw [q, n] at e; cases e
    have at' : ∀ {i : Nat} {q : Addr × Addr}, (ρ ++ [p])[i]? = some q → ρ[i]? = some q ∨ (i = ρ.length ∧ q = p) := by
      intro i q h
      by_cases lt : i < ρ.length
      · rw [List.getElem?_append_left lt] at h; exact .inl h
      · have hl' := (List.getElem?_eq_some_iff.mp h).1
        have le : i = ρ.length := by rw [List.length_append] at hl'; simp at hl'; omega
        subst le
        rw [List.getElem?_append_right (Nat.le_refl _)] at h
        simp at h
        exact .inr ⟨rfl, h.symm⟩
    rcases at' hi with hi' | ⟨hi', eq⟩ <;> rcases at' hj with hj' | ⟨hj', er⟩
    · exact R.apart i j q r hij hi' hj'
    · have q := old hi'; rw [er]; exact ⟨⟨ne q.1 hp.1, ne q.1 hp.2⟩, ne q.2 hp.1, ne q.2 hp.2⟩
    · have q := old hj'; rw [eq]; exact ⟨⟨(ne q.1 hp.1).symm, (ne q.2 hp.1).symm⟩, (ne q.1 hp.2).symm, (ne q.2 hp.2).symm⟩
    · exact absurd (hi'.trans hj'.symm) hij
  · rcases List.mem_append.mp hq with hq | hq
    · exact R.new q hq
    · have lv : Live cx.h₀ s.heap := fun b o e => ⟨o, R.base b o e⟩
      rw [List.mem_singleton.mp hq]; exact ⟨lv.none hp.1, lv.none hp.2⟩
  · rcases List.mem_append.mp hq with hq | hq
    · exact R.high q hq
    · rw [List.mem_singleton.mp hq]; exact Nat.lt_of_lt_of_le R.low hz
  · obtain ⟨h, t, rfl⟩ := R.rest
    exact ⟨h', tk, rfl⟩
/- an object is turned -/
theorem Rel.set (R : Rel cx H ρ s) {l : Nat} {h' : Heap} {tk : Nat} {o : HObj} {p : Addr × Addr} (hl : ρ[l]? = some p) (k : ∀ b o, s.heap.get? b = some o → b ≠ p.1 → b ≠ p.2 → h'.get? b = some o) (z : Live s.heap h')
    (x : HR cx ρ h' o p) : Full ρ s.heap ρ h' ∧ Rel cx (H.set l o) ρ { s with heap := h', toks := tk } := by
  have own : ∀ b, ¬ Owned ρ b → b ≠ p.1 ∧ b ≠ p.2 := fun b n => ⟨fun e => n ⟨p, List.mem_of_getElem? hl, .inl e⟩, fun e => n ⟨p, List.mem_of_getElem? hl, .inr e⟩⟩
  have F : Full ρ s.heap ρ h' := ⟨Grow.refl _ _, fun b ob e n => ⟨ob, k b ob e (own b n).1 (own b n).2, .refl ob⟩, z⟩
  refine ⟨F, ⟨by rw [List.length_set, R.len], fun i ob q hi hq => ?_, R.apart, R.new, R.high, fun b ob e => ?_, R.lowK z, R.sys, ?_⟩⟩
  · by_cases e : i = l
    · subst e
      rw [hl] at hq; cases hq
      have lt : i < H.length := by rw [R.len]; exact (List.getElem?_eq_some_iff.mp hl).1
      rw [List.getElem?_set_self lt] at hi
      cases hi; exact x
    · rw [List.getElem?_set_ne (fun q => e q.symm)] at hi
      refine (R.objs i ob q hi hq).step F.step fun b ob' hb eb => ?_
      obtain ⟨⟨a1, a2⟩, a3, a4⟩ := R.apart i l q p e hq hl
      rcases hb with rfl | rfl
      · exact k _ _ eb a1 a2
      · exact k _ _ eb a3 a4
  · have n := R.base_not e
    exact k b ob (R.base b ob e) (own b n).1 (own b n).2
  · obtain ⟨h, t, rfl⟩ := R.rest
    exact ⟨h', tk, rfl⟩
end
end Mine

-- part MSim
namespace Mine
open PySem

/-! ## ambient facts -/
structure Amb where
  P : Rho → Heap → Prop
  st : ∀ ρ h ρ' h', P ρ h → Full ρ h ρ' h' → P ρ' h'
noncomputable def Amb.and (P Q : Amb) : Amb := ⟨fun ρ h => P.P ρ h ∧ Q.P ρ h, fun ρ h ρ' h' x f => ⟨P.st _ _ _ _ x.1 f, Q.st _ _ _ _ x.2 f⟩⟩
noncomputable def Amb.prop (p : Prop) : Amb := ⟨fun _ _ => p, fun _ _ _ _ x _ => x⟩
noncomputable def Amb.vr (cx : Cx) (m : Val) (v : Value) : Amb := ⟨fun ρ h => VR cx ρ h m v, fun _ _ _ _ x f => x.step f.step⟩
noncomputable def Amb.vrs (cx : Cx) (ms : List Val) (vs : List Value) : Amb := ⟨fun ρ h => VRs cx ρ h ms vs, fun _ _ _ _ x f => x.step f.step⟩

/- an exception of the class numbered c that was made behind h -/
structure Flying (cx : Cx) (ρ : Rho) (h h' : Heap) (c : Nat) (e : Value) : Prop where
  is : ∃ (a C : Addr) (vs : Array Value), e = .ref a ∧ cx.cls[c]? = some (.ref C) ∧ h.get? a = none ∧ h'.get? a = some { cls := .ref C, dict := none, data := .fields vs, slots := #[] } ∧ vs.size = 6 ∧ ¬ Owned ρ a ∧
    (vs[1]? = some .none ∨ ∃ (tb : Addr) (tvs : Array Value), vs[1]? = some (.ref tb) ∧ h.get? tb = none ∧ h'.get? tb = some { cls := .type "traceback", dict := none, data := .fields tvs, slots := #[] } ∧ tvs.size = 11)
theorem Flying.older {cx : Cx} {ρ : Rho} {h₁ h h' : Heap} {c : Nat} {e : Value} (x : Flying cx ρ h h' c e) (z : Live h₁ h) : Flying cx ρ h₁ h' c e := by
  obtain ⟨a, C, vs, e1, e2, e3, e4, e5, e6, e7⟩ := x.is
  refine ⟨a, C, vs, e1, e2, z.none e3, e4, e5, e6, ?_⟩
  rcases e7 with e7 | ⟨tb, tvs, f1, f2, f3⟩
  · exact .inl e7
  · exact .inr ⟨tb, tvs, f1, z.none f2, f3⟩

noncomputable def SimAt {α β : Type} (cx : Cx) (A : Around) (r : Res β) (t : Sem α) (V : β → α → Amb) (ρ : Rho) (s : Shared) : Prop :=
  match r with
  | .bad => True
  | .ok b H' => wpAny (model cx.prog cx.w) A t (fun a s' => ∃ ρ', Full ρ s.heap ρ' s'.heap ∧ Rel cx H' ρ' s' ∧ (V b a).P ρ' s'.heap) (fun _ _ => False) s
  | .exc c H' => wpAny (model cx.prog cx.w) A t (fun _ _ => False) (fun e s' => ∃ ρ', Full ρ s.heap ρ' s'.heap ∧ Rel cx H' ρ' s' ∧ Flying cx ρ' s.heap s'.heap c e) s

noncomputable def Sim {α β : Type} (cx : Cx) (A : Around) (P : Amb) (t : Sem α) (m : M β) (V : β → α → Amb) : Prop :=
  ∀ (H : Hp) (ρ : Rho) (s : Shared), Rel cx H ρ s → P.P ρ s.heap → SimAt cx A (m H) t V ρ s

section
variable {α β γ δ : Type} {cx : Cx} {A : Around} {P : Amb} {t : Sem α} {m : M β} {V : β → α → Amb}

theorem SimAt.bind {f : α → Sem γ} {g : β → M δ} {W : δ → γ → Amb} {ρ : Rho} {s : Shared} {H : Hp} (x : SimAt cx A (m H) t V ρ s)
    (y : ∀ b a H' ρ' s', m H = .ok b H' → Full ρ s.heap ρ' s'.heap → Rel cx H' ρ' s' → (V b a).P ρ' s'.heap → SimAt cx A (g b H') (f a) W ρ' s') :
    SimAt cx A (m.bnd g H) (t >>= f) W ρ s := by
  cases e : m H with
  | bad => rw [bnd_bad e]; trivial
  | exc c H' =>
    rw [bnd_exc e]
    rw [e] at x
    exact wpAny_bind (wpAny_mono x (fun _ _ q => q.elim) fun _ _ q => q)
  | ok b H' =>
    rw [bnd_ok e]
    rw [e] at x
    have y' := y b
    cases e2 : g b H' with
    | bad => trivial
    | exc c H'' =>
      refine wpAny_bind (wpAny_mono x (fun a s' ⟨ρ', F, R, v⟩ => ?_) fun _ _ q => q.elim)
      have z := y b a H' ρ' s' e F R v
      rw [e2] at z
      exact wpAny_mono z (fun _ _ q => q) fun e s'' ⟨ρ'', F', R', fl⟩ => ⟨ρ'', F.trans F', R', fl.older F.live⟩
    | ok d H'' =>
      refine wpAny_bind (wpAny_mono x (fun a s' ⟨ρ', F, R, v⟩ => ?_) fun _ _ q => q.elim)
      have z := y b a H' ρ' s' e F R v
      rw [e2] at z
      exact wpAny_mono z (fun a' s'' ⟨ρ'', F', R', w⟩ => ⟨ρ'', F.trans F', R', w⟩) fun _ _ q => q.elim

theorem Sim.bind {f : α → Sem γ} {g : β → M δ} {W : δ → γ → Amb} (x : Sim cx A P t m V) (y : ∀ b a, Sim cx A (P.and (V b a)) (f a) (g b) W) : Sim cx A P (t >>= f) (m.bnd g) W :=
  fun H ρ s R p => SimAt.bind (x H ρ s R p) fun b a H' ρ' s' _ F R' v => y b a H' ρ' s' R' ⟨P.st _ _ _ _ p F, v⟩

/- the rest, as a transformer -/
noncomputable def SimK {α β : Type} (cx : Cx) (r : Res β) (K : (α → Shared → Prop) → (Value → Shared → Prop) → Shared → Prop) (V : β → α → Amb) (ρ : Rho) (s : Shared) : Prop :=
  match r with
  | .bad => True
  | .ok b H' => K (fun a s' => ∃ ρ', Full ρ s.heap ρ' s'.heap ∧ Rel cx H' ρ' s' ∧ (V b a).P ρ' s'.heap) (fun _ _ => False) s
  | .exc c H' => K (fun _ _ => False) (fun e s' => ∃ ρ', Full ρ s.heap ρ' s'.heap ∧ Rel cx H' ρ' s' ∧ Flying cx ρ' s.heap s'.heap c e) s
theorem SimK.of {r : Res β} {ρ : Rho} {s : Shared} (x : SimAt cx A r t V ρ s) : SimK cx r (fun Q E s => wpAny (model cx.prog cx.w) A t Q E s) V ρ s := x
noncomputable def MonoK {α : Type} (K : (α → Shared → Prop) → (Value → Shared → Prop) → Shared → Prop) : Prop :=
  ∀ Q E Q' E' s, K Q E s → (∀ a s, Q a s → Q' a s) → (∀ e s, E e s → E' e s) → K Q' E' s
theorem SimAt.bindK {g : β → M δ} {W : δ → γ → Amb} {ρ : Rho} {s : Shared} {H : Hp} {K : α → (γ → Shared → Prop) → (Value → Shared → Prop) → Shared → Prop} {K' : (γ → Shared → Prop) → (Value → Shared → Prop) → Shared → Prop} (x : SimAt cx A (m H) t V ρ s)
    (y : ∀ b a H' ρ' s', m H = .ok b H' → Full ρ s.heap ρ' s'.heap → Rel cx H' ρ' s' → (V b a).P ρ' s'.heap → SimK cx (g b H') (K a) W ρ' s')
    (mk : ∀ a, MonoK (K a))
    (k : ∀ Q E, wpAny (model cx.prog cx.w) A t (fun a s' => K a Q E s') E s → K' Q E s) :
    SimK cx (m.bnd g H) K' W ρ s := by
  cases e : m H with
  | bad => rw [bnd_bad e]; trivial
  | exc c H' =>
    rw [bnd_exc e]
    rw [e] at x
    exact k _ _ (wpAny_mono x (fun _ _ q => q.elim) fun _ _ q => q)
  | ok b H' =>
    rw [bnd_ok e]
    rw [e] at x
    cases e2 : g b H' with
    | bad => trivial
    | exc c H'' =>
      refine k _ _ (wpAny_mono x (fun a s' ⟨ρ', F, R, v⟩ => ?_) fun _ _ q => q.elim)
      have z := y b a H' ρ' s' e F R v
      rw [e2] at z
      exact mk a _ _ _ _ _ z (fun _ _ q => q) fun e s'' ⟨ρ'', F', R', fl⟩ => ⟨ρ'', F.trans F', R', fl.older F.live⟩
    | ok d H'' =>
      refine k _ _ (wpAny_mono x (fun a s' ⟨ρ', F, R, v⟩ => ?_) fun _ _ q => q.elim)
      have z := y b a H' ρ' s' e F R v
      rw [e2] at z
      exact mk a _ _ _ _ _ z (fun a' s'' ⟨ρ'', F', R', w⟩ => ⟨ρ'', F.trans F', R', w⟩) fun _ _ q => q.elim
theorem SimK.lookK {ρ : Rho} {s : Shared} {H : Hp} {f : Hp → Option β} {g : β → M δ} {W : δ → γ → Amb} {K : (γ → Shared → Prop) → (Value → Shared → Prop) → Shared → Prop} (y : ∀ b, f H = some b → SimK cx (g b H) K W ρ s) : SimK cx ((M.look f).bnd g H) K W ρ s := by
  cases e : f H with
  | none => rw [bnd_bad (show M.look f H = .bad by unfold M.look; rw [e])]; trivial
  | some b => rw [bnd_ok (show M.look f H = .ok b H by unfold M.look; rw [e])]; exact y b e
theorem SimK.mono {r : Res β} {ρ : Rho} {s : Shared} {K K' : (α → Shared → Prop) → (Value → Shared → Prop) → Shared → Prop} (x : SimK cx r K V ρ s) (k : ∀ Q E, K Q E s → K' Q E s) : SimK cx r K' V ρ s := by
  cases r with
  | bad => trivial
  | exc c H' => exact k _ _ x
  | ok b H' => exact k _ _ x

theorem Sim.pre {t' : Sem α} (x : Sim cx A P t m V) (k : ∀ (Q : α → Shared → Prop) (E : Value → Shared → Prop) (s : Shared), wpAny (model cx.prog cx.w) A t Q E s → wpAny (model cx.prog cx.w) A t' Q E s) : Sim cx A P t' m V := by
  intro H ρ s R p
  have z := x H ρ s R p
  cases e : m H with
  | bad => trivial
  | exc c H' => rw [e] at z; exact k _ _ _ z
  | ok b H' => rw [e] at z; exact k _ _ _ z
theorem Sim.holding {vs : List Value} (x : Sim cx A P t m V) : Sim cx A P (holding vs t) m V := x.pre fun _ _ _ h => wpAny_holding h
theorem Sim.stand {pos : Pos} {k : Unit → Sem α} (x : Sim cx A P (k ()) m V) : Sim cx A P (standAt pos >>= k) m V := x.pre fun _ _ _ h => wpAny_bind (wpAny_standAt h)
theorem Sim.weak {P' : Amb} (x : Sim cx A P t m V) (k : ∀ ρ h, P'.P ρ h → P.P ρ h) : Sim cx A P' t m V := fun H ρ s R p => x H ρ s R (k _ _ p)
theorem Sim.ret {a : α} {b : β} (k : ∀ ρ h, P.P ρ h → (V b a).P ρ h) : Sim cx A P (pure a) (M.ret b) V :=
  fun H ρ s R p => wpAny_pure ⟨ρ, Full.refl _ _, R, k _ _ p⟩
theorem Sim.bad : Sim cx A P t (M.bad : M β) V := fun _ _ _ _ _ => trivial
/- a step that only looks; the answer is a value -/
theorem Sim.look {f : Hp → Option β} (k : ∀ (H : Hp) (ρ : Rho) (s : Shared) (b : β), Rel cx H ρ s → P.P ρ s.heap → f H = some b →
    ∀ (Q : α → Shared → Prop) (E : Value → Shared → Prop), (∀ a tk, (V b a).P ρ s.heap → Q a { s with toks := tk }) → wpAny (model cx.prog cx.w) A t Q E s) : Sim cx A P t (M.look f) V := by
  intro H ρ s R p
  show SimAt cx A (match f H with | some a => Res.ok a H | none => Res.bad) t V ρ s
  cases e : f H with
  | none => trivial
  | some b => exact k H ρ s b R p e _ _ fun a tk v => ⟨ρ, Full.refl _ _, R.toks tk, v⟩
end

/-! ## the frame -/
noncomputable def VarIs (env : Env) (h : Heap) (y : Str) (v : Value) : Prop :=
  (env.kindOf y = some .local ∧ ∃ m, h.Ns env.locals m ∧ m y = some v) ∨
  ((env.kindOf y = some .cell ∨ env.kindOf y = some .free) ∧ ∃ c, env.cells.lookup y = some c ∧ h.IsCell c (some v))
noncomputable def KindOk : NameKind → Option NameKind → Prop
  | .local, k => k = some .local
  | .cell, k => k = some .cell
  | .free, k => k = some .free ∨ k = some .cell
  | .globalImplicit, k => k = some .globalImplicit
  | _, _ => True

/- what stands of a frame whatever its names hold -/
structure EnvSt (cx : Cx) (env : Env) (sc : Scope) (ρ : Rho) (h : Heap) : Prop where
  fn : env.scope.kind = .function
  glob : env.globals = mainGlobals
  blt : env.builtins = builtinsNs
  kinds : ∀ y k, sc.names.lookup y = some k → KindOk k (env.kindOf y)
  loc : ∃ m, h.Ns env.locals m
  locN : ¬ Owned ρ env.locals
  locB : cx.h₀.get? env.locals = none
  cells : ∀ y c, env.cells.lookup y = some c → (∃ v, h.IsCell c v) ∧ ¬ Owned ρ c ∧ cx.h₀.get? c = none
  hasCell : ∀ y, sc.names.lookup y = some .cell ∨ sc.names.lookup y = some .free → ∃ c, env.cells.lookup y = some c
  apart : ∀ y z c, env.cells.lookup y = some c → env.cells.lookup z = some c → y = z
structure EnvOk (cx : Cx) (env : Env) (sc : Scope) (ns : List (Option Str)) (Γ : Env') (ρ : Rho) (h : Heap) : Prop where
  st : EnvSt cx env sc ρ h
  len : Γ.length = ns.length
  vals : ∀ (i : Nat) (y : Str) (mv : Val), ns[i]? = some (some y) → Γ[i]? = some (some mv) → ∃ v, VarIs env h y v ∧ VR cx ρ h mv v

theorem Heap_Ns_keep {h h' : Heap} {a : Addr} {m : Str → Option Value} (n : h.Ns a m) (k : ∀ o, h.get? a = some o → ∃ o', h'.get? a = some o' ∧ o'.data = o.data) : h'.Ns a m := by
  obtain ⟨o, es, ep, e, d, r⟩ := n
  obtain ⟨o', e', d'⟩ := k o e
  exact ⟨o', es, ep, e', d'.trans d, r⟩
theorem Full.data {ρ ρ' : Rho} {h h' : Heap} (F : Full ρ h ρ' h') {a : Addr} (n : ¬ Owned ρ a) : ∀ o, h.get? a = some o → ∃ o', h'.get? a = some o' ∧ o'.data = o.data := fun o e => by
  obtain ⟨o', e', u⟩ := F.keep a o e n
  exact ⟨o', e', u.data⟩
theorem IsCell_keep {h h' : Heap} {c : Addr} {v : Option Value} (x : h.IsCell c v) (k : ∀ o, h.get? c = some o → ∃ o', h'.get? c = some o' ∧ o'.data = o.data) : h'.IsCell c v := by
  obtain ⟨o, e, d⟩ := x
  obtain ⟨o', e', d'⟩ := k o e
  exact ⟨o', e', d'.trans d⟩
theorem EnvSt.full {cx : Cx} {env : Env} {sc : Scope} {ρ ρ' : Rho} {h h' : Heap} (x : EnvSt cx env sc ρ h) (F : Full ρ h ρ' h') : EnvSt cx env sc ρ' h' := by
  obtain ⟨m, hm⟩ := x.loc
  obtain ⟨o, es, ep, e, d, r⟩ := id hm
  refine ⟨x.fn, x.glob, x.blt, x.kinds, ⟨m, Heap_Ns_keep hm (F.data x.locN)⟩, F.grow.not x.locN e, x.locB, fun y c hc => ?_, x.hasCell, x.apart⟩
  obtain ⟨⟨v, hv⟩, n, b⟩ := x.cells y c hc
  obtain ⟨o, e, _⟩ := id hv
  exact ⟨⟨v, IsCell_keep hv (F.data n)⟩, F.grow.not n e, b⟩
theorem VarIs.full {cx : Cx} {env : Env} {sc : Scope} {ρ ρ' : Rho} {h h' : Heap} {y : Str} {v : Value} (x : EnvSt cx env sc ρ h) (F : Full ρ h ρ' h') (q : VarIs env h y v) : VarIs env h' y v := by
  rcases q with ⟨k, m, hm, e⟩ | ⟨k, c, hc, e⟩
  · exact .inl ⟨k, m, Heap_Ns_keep hm (F.data x.locN), e⟩
  · exact .inr ⟨k, c, hc, IsCell_keep e (F.data (x.cells y c hc).2.1)⟩
theorem EnvOk.full {cx : Cx} {env : Env} {sc : Scope} {ns : List (Option Str)} {Γ : Env'} {ρ ρ' : Rho} {h h' : Heap} (x : EnvOk cx env sc ns Γ ρ h) (F : Full ρ h ρ' h') : EnvOk cx env sc ns Γ ρ' h' :=
  ⟨x.st.full F, x.len, fun i y mv hi hm => by
    obtain ⟨v, hv, r⟩ := x.vals i y mv hi hm
    exact ⟨v, hv.full x.st F, r.step F.step⟩⟩
noncomputable def Amb.env (cx : Cx) (env : Env) (sc : Scope) (ns : List (Option Str)) (Γ : Env') : Amb := ⟨fun ρ h => EnvOk cx env sc ns Γ ρ h, fun _ _ _ _ x F => x.full F⟩

/- the frames on the stack, for the notes that an exception makes -/
noncomputable def FramesOk (cx : Cx) (l : List Env) (ρ : Rho) (h : Heap) : Prop :=
  ∀ env ∈ l, env.scope.kind ≠ .module ∧ ∃ L o, env.frame = some L ∧ cx.h₀.get? L = none ∧ h.get? L = some o ∧ (∃ es n, o.data = .dict es n) ∧ ¬ Owned ρ L
theorem FramesOk.full {cx : Cx} {l : List Env} {ρ ρ' : Rho} {h h' : Heap} (x : FramesOk cx l ρ h) (F : Full ρ h ρ' h') : FramesOk cx l ρ' h' := fun env he => by
  obtain ⟨k, L, o, h1, h2, h3, h5, h6⟩ := x env he
  obtain ⟨o', e', u⟩ := F.keep L o h3 h6
  exact ⟨k, L, o', h1, h2, e', by rw [u.data]; exact h5, F.grow.not h6 h3⟩
noncomputable def Amb.frames (cx : Cx) (l : List Env) : Amb := ⟨fun ρ h => FramesOk cx l ρ h, fun _ _ _ _ x F => x.full F⟩

/- room for calls d deep -/
structure Room (A : Around) (d : Nat) : Prop where
  hh : A.handled = none
  depth : A.depth + 5 * d + 150 < recursionLimit
  units : A.units + 20 * d + 100 < cLine
theorem Room.in1 {A : Around} {d : Nat} (r : Room A (d + 1)) : Room A.in1 d := ⟨r.hh, by have := r.depth; simp only [Around.in1_depth]; omega, by have := r.units; simp only [Around.in1_units]; omega⟩

end Mine

-- part MCk
namespace Mine
open PySem

/- the built-ins that are called by their names -/
noncomputable def bltTab : List (Str × Value) := [("len", .builtin "len"), ("range", .type "range"), ("isinstance", .builtin "isinstance"), ("list", .type "list"), ("tuple", .type "tuple"), ("int", .type "int"), ("bool", .type "bool"), ("str", .type "str"),
  ("zip", .type "zip"), ("enumerate", .type "enumerate"), ("sorted", .builtin "sorted"), ("min", .builtin "min"), ("max", .builtin "max"), ("abs", .builtin "abs"), ("set", .type "set")]
structure Names where
  funs : List (Str × Nat)
  clss : List (Str × Nat)
  globs : List (Str × Nat)
  attrs : List (Str × Nat)
  meths : List (Str × Nat)

noncomputable def isGlob (sc : Scope) (x : Str) : Bool :=
  (match sc.names.lookup x with
   | some .globalImplicit => true
   | _ => false) && !(x == ("__debug__" : Str))
noncomputable def isVar (sc : Scope) (ns : List (Option Str)) (i : Nat) (x : Str) : Bool :=
  (match sc.names.lookup x with
   | some .local => true
   | some .cell => true
   | some .free => true
   | _ => false) && (match ns[i]? with
   | some (some y) => decide (y = x)
   | _ => false) && !(x == ("__debug__" : Str)) && !(x == ("__classdict__" : Str))
/- a name that may be stored -/
noncomputable def isOwn (sc : Scope) (ns : List (Option Str)) (i : Nat) (x : Str) : Bool :=
  (match sc.names.lookup x with
   | some .local => true
   | some .cell => true
   | _ => false) && (match ns[i]? with
   | some (some y) => decide (y = x)
   | _ => false)
noncomputable def hasNo (l : List (Str × Nat)) (x : Str) (k : Nat) : Bool :=
  match l.lookup x with
  | some j => decide (j = k)
  | none => false

noncomputable def bOp : BOp → Operator
  | .add => .Add
  | .sub => .Sub
  | .mul => .Mult
  | .fdiv => .FloorDiv
  | .mod => .Mod
noncomputable def opOk (b : BOp) (o : Operator) : Bool := decide (bOp b = o)
noncomputable def cmOp : COp → CmpOp
  | .eq => .Eq
  | .ne => .NotEq
  | .lt => .Lt
  | .le => .LtE
  | .gt => .Gt
  | .ge => .GtE
  | .is => .Is
  | .isNot => .IsNot
noncomputable def notSuper : Expr → Bool
  | .Call (.Name x _) _ _ _ => !(x == ("super" : Str))
  | _ => true
noncomputable def notSet : Expr → Bool
  | .Set .. => false
  | _ => true
/- the built-in function's name and how many arguments it takes -/
noncomputable def bfName : BF → Str × Nat
  | .len => ("len", 1)
  | .range => ("range", 1)
  | .int => ("int", 1)
  | .sortedSet => ("", 0)
noncomputable def bmName : BM → Str × Nat
  | .append => ("append", 1)
  | .clear => ("clear", 0)
noncomputable def tyName : Ty → Str
  | .int => "int"
  | .bool => "bool"
  | .str => "str"
  | .tuple => "tuple"
  | .list => "list"
  | .cls _ => ""
/- what a comprehension's names are, seen from within -/
noncomputable def inner (csc : Scope) (ns : List (Option Str)) : List (Option Str) :=
  ns.map fun o => match o with
    | some y => (match csc.names.lookup y with
      | some .free => some y
      | _ => none)
    | none => none
noncomputable def compOk (sc csc : Scope) (x : Str) : Bool :=
  (match csc.kind with
   | .function => true
   | _ => false) &&
  (match csc.names.lookup x with
   | some .local => true
   | some .cell => true
   | _ => false) &&
  csc.names.all fun p =>
    (match p.2 with
     | .local => (match csc.names.lookup p.1 with | some .local => true | _ => false)
     | .cell => (match csc.names.lookup p.1 with | some .cell => true | _ => false)
     | .free => (match csc.names.lookup p.1 with | some .free => true | _ => false) && (match sc.names.lookup p.1 with
       | some .cell => true
       | some .free => true
       | _ => false)
     | .globalImplicit => (match csc.names.lookup p.1 with | some .globalImplicit => true | _ => false)
     | _ => false)

/-! forms of expressions, each with what it says -/
noncomputable def dConst (e : Expr) : Option { p : Const × Nat × Pos // e = .Constant p.1 p.2.1 p.2.2 } := match e with
  | .Constant c k pos => some ⟨(c, k, pos), rfl⟩
  | _ => none
noncomputable def dName (e : Expr) : Option { p : Str × Pos // e = .Name p.1 p.2 } := match e with
  | .Name x pos => some ⟨(x, pos), rfl⟩
  | _ => none
noncomputable def dBin (e : Expr) : Option { p : Expr × Operator × Expr × Pos // e = .BinOp p.1 p.2.1 p.2.2.1 p.2.2.2 } := match e with
  | .BinOp l o r pos => some ⟨(l, o, r, pos), rfl⟩
  | _ => none
noncomputable def dUn (e : Expr) : Option { p : UnaryOp × Expr × Pos // e = .UnaryOp p.1 p.2.1 p.2.2 } := match e with
  | .UnaryOp o x pos => some ⟨(o, x, pos), rfl⟩
  | _ => none
noncomputable def dBool (e : Expr) : Option { p : BoolOp × List Expr × Pos // e = .BoolOp p.1 p.2.1 p.2.2 } := match e with
  | .BoolOp o xs pos => some ⟨(o, xs, pos), rfl⟩
  | _ => none
noncomputable def dCmp (e : Expr) : Option { p : Expr × List CmpOp × List Expr × Pos // e = .Compare p.1 p.2.1 p.2.2.1 p.2.2.2 } := match e with
  | .Compare l os rs pos => some ⟨(l, os, rs, pos), rfl⟩
  | _ => none
noncomputable def dSub (e : Expr) : Option { p : Expr × Expr × Pos // e = .Subscript p.1 p.2.1 p.2.2 } := match e with
  | .Subscript v s pos => some ⟨(v, s, pos), rfl⟩
  | _ => none
noncomputable def dTup (e : Expr) : Option { p : List Expr × Nat × Pos // e = .Tuple p.1 p.2.1 p.2.2 } := match e with
  | .Tuple xs k pos => some ⟨(xs, k, pos), rfl⟩
  | _ => none
noncomputable def dList (e : Expr) : Option { p : List Expr × Pos // e = .List p.1 p.2 } := match e with
  | .List xs pos => some ⟨(xs, pos), rfl⟩
  | _ => none
noncomputable def dAttr (e : Expr) : Option { p : Expr × Str × Pos // e = .Attribute p.1 p.2.1 p.2.2 } := match e with
  | .Attribute v y pos => some ⟨(v, y, pos), rfl⟩
  | _ => none
noncomputable def dCall (e : Expr) : Option { p : Expr × List Expr × List Keyword × Pos // e = .Call p.1 p.2.1 p.2.2.1 p.2.2.2 } := match e with
  | .Call f xs ks pos => some ⟨(f, xs, ks, pos), rfl⟩
  | _ => none
noncomputable def dComp (e : Expr) : Option { p : Expr × List Comprehension × Scope × Pos // e = .ListComp p.1 p.2.1 p.2.2.1 p.2.2.2 } := match e with
  | .ListComp el gs csc pos => some ⟨(el, gs, csc, pos), rfl⟩
  | _ => none
noncomputable def cNone (c : Const) : Option { _p : Unit // c = .none } := match c with
  | .none => some ⟨(), rfl⟩
  | _ => none
noncomputable def cBool (c : Const) : Option { b : Bool // c = .bool b } := match c with
  | .bool b => some ⟨b, rfl⟩
  | _ => none
noncomputable def cInt (c : Const) : Option { b : Int // c = .int b } := match c with
  | .int b => some ⟨b, rfl⟩
  | _ => none
noncomputable def cStr (c : Const) : Option { b : Str // c = .str b } := match c with
  | .str b => some ⟨b, rfl⟩
  | _ => none
noncomputable def isUSub (o : UnaryOp) : Option { _p : Unit // o = .USub } := match o with
  | .USub => some ⟨(), rfl⟩
  | _ => none
noncomputable def isNotOp (o : UnaryOp) : Option { _p : Unit // o = .Not } := match o with
  | .Not => some ⟨(), rfl⟩
  | _ => none
noncomputable def isAnd (o : BoolOp) : Option { _p : Unit // o = .And } := match o with
  | .And => some ⟨(), rfl⟩
  | _ => none
noncomputable def isOr (o : BoolOp) : Option { _p : Unit // o = .Or } := match o with
  | .Or => some ⟨(), rfl⟩
  | _ => none
noncomputable def one {α : Type} (xs : List α) : Option { x : α // xs = [x] } := match xs with
  | [x] => some ⟨x, rfl⟩
  | _ => none
noncomputable def two {α : Type} (xs : List α) : Option { p : α × α // xs = [p.1, p.2] } := match xs with
  | [x, y] => some ⟨(x, y), rfl⟩
  | _ => none
noncomputable def more (xs : List Expr) : Option { p : Expr × Expr × List Expr // xs = p.1 :: p.2.1 :: p.2.2 } := match xs with
  | x :: y :: r => some ⟨(x, y, r), rfl⟩
  | _ => none
noncomputable def nilL {α : Type} (xs : List α) : Option { _p : Unit // xs = [] } := match xs with
  | [] => some ⟨(), rfl⟩
  | _ :: _ => none
/- a call of a name, no keywords -/
noncomputable def dCallN (e : Expr) : Option { p : Str × Pos × List Expr × Pos // e = .Call (.Name p.1 p.2.1) p.2.2.1 [] p.2.2.2 } := match dCall e with
  | some ⟨(f, xs, ks, pos), h⟩ => (match nilL ks, dName f with
    | some ⟨_, hk⟩, some ⟨(x, np), hn⟩ => some ⟨(x, np, xs, pos), h.trans (by dsimp only at hk hn ⊢; rw [hk, hn])⟩
    | _, _ => none)
  | none => none
/- a call of an attribute, no keywords, on one line -/
noncomputable def dCallA (e : Expr) : Option { p : Expr × Str × Pos × List Expr × Pos // e = .Call (.Attribute p.1 p.2.1 p.2.2.1) p.2.2.2.1 [] p.2.2.2.2 ∧ (p.2.2.1.endLine == p.2.2.2.2.line) = true } := match dCall e with
  | some ⟨(f, xs, ks, pos), h⟩ => (match nilL ks, dAttr f with
    | some ⟨_, hk⟩, some ⟨(o, y, apos), hn⟩ => if hl : (apos.endLine == pos.line) = true then some ⟨(o, y, apos, xs, pos), h.trans (by dsimp only at hk hn ⊢; rw [hk, hn]), hl⟩ else none
    | _, _ => none)
  | none => none
noncomputable def gen1 (gs : List Comprehension) : Option { p : Str × Pos × Expr × List Expr // gs = [⟨.Name p.1 p.2.1, p.2.2.1, p.2.2.2, 0⟩] } := match one gs with
  | some ⟨⟨t, i, ifs, as⟩, h⟩ => (match dName t with
    | some ⟨(x, px), hn⟩ => if ha : as = 0 then some ⟨(x, px, i, ifs), h.trans (by dsimp only at hn ⊢; rw [hn, ha])⟩ else none
    | none => none)
  | none => none
noncomputable def tyOk (N : Names) (y : Str) : Ty → Bool
  | .cls _ => false
  | t => decide (tyName t = y)

mutual
noncomputable def ck (N : Names) (sc : Scope) (ns : List (Option Str)) (m : ME) (e : Expr) : Bool :=
  match m with
  | .none => (match dConst e with
    | some ⟨(c, _), _⟩ => (cNone c).isSome
    | none => false)
  | .bool b => (match dConst e with
    | some ⟨(c, _), _⟩ => (match cBool c with
      | some ⟨c, _⟩ => b == c
      | none => false)
    | none => false)
  | .int i => (match dConst e with
    | some ⟨(c, _), _⟩ => (match cInt c with
      | some ⟨j, _⟩ => decide (i = j)
      | none => false)
    | none => false)
  | .str s => (match dConst e with
    | some ⟨(c, _), _⟩ => (match cStr c with
      | some ⟨t, _⟩ => decide (s = t) && decide (s.length ≤ 1000)
      | none => false)
    | none => false)
  | .glob k => (match dName e with
    | some ⟨(x, _), _⟩ => isGlob sc x && hasNo N.globs x k
    | none => false)
  | .var i => (match dName e with
    | some ⟨(x, _), _⟩ => isVar sc ns i x
    | none => false)
  | .bin op a b => (match dBin e with
    | some ⟨(l, o, r, _), _⟩ => opOk op o && ck N sc ns a l && ck N sc ns b r
    | none => false)
  | .neg a => (match dUn e with
    | some ⟨(o, x, _), _⟩ => (isUSub o).isSome && ck N sc ns a x
    | none => false)
  | .not a => (match dUn e with
    | some ⟨(o, x, _), _⟩ => (isNotOp o).isSome && ck N sc ns a x
    | none => false)
  | .and a b => (match dBool e with
    | some ⟨(o, xs, pos), _⟩ => (isAnd o).isSome && (match more xs with
      | some ⟨(x, y, rest), _⟩ => ck N sc ns a x && (match rest with
        | [] => ck N sc ns b y
        | _ :: _ => ck N sc ns b (.BoolOp .And (y :: rest) pos))
      | none => false)
    | none => false)
  | .or a b => (match dBool e with
    | some ⟨(o, xs, pos), _⟩ => (isOr o).isSome && (match more xs with
      | some ⟨(x, y, rest), _⟩ => ck N sc ns a x && (match rest with
        | [] => ck N sc ns b y
        | _ :: _ => ck N sc ns b (.BoolOp .Or (y :: rest) pos))
      | none => false)
    | none => false)
  | .cmp op a b => (match dCmp e with
    | some ⟨(l, os, rs, _), _⟩ => decide (os = [cmOp op]) && (match one rs with
      | some ⟨r, _⟩ => ck N sc ns a l && ck N sc ns b r && notSet r
      | none => false)
    | none => false)
  | .cmp2 op1 op2 a b c => (match dCmp e with
    | some ⟨(l, os, rs, _), _⟩ => decide (os = [cmOp op1, cmOp op2]) && (match two rs with
      | some ⟨(m, r), _⟩ => ck N sc ns a l && ck N sc ns b m && ck N sc ns c r && notSet r
      | none => false)
    | none => false)
  | .sub a i => (match dSub e with
    | some ⟨(v, s, _), _⟩ => ck N sc ns a v && ck N sc ns i s
    | none => false)
  | .tup es => (match dTup e with
    | some ⟨(xs, _), _⟩ => ckEs N sc ns es xs && decide (xs.length ≤ 1000)
    | none => false)
  | .list es => (match dList e with
    | some ⟨(xs, _), _⟩ => ckEs N sc ns es xs && decide (xs.length ≤ 1000)
    | none => false)
  | .call f es => (match dCallN e with
    | some ⟨(x, _, xs, _), _⟩ => isGlob sc x && hasNo N.funs x f && ckEs N sc ns es xs && decide (xs.length ≤ 20)
    | none => false)
  | .bf f es => (match dCallN e with
    | some ⟨(x, _, xs, _), _⟩ => isGlob sc x && decide ((bfName f).1 = x) && decide ((bfName f).2 = xs.length) && ckEs N sc ns es xs
    | none => false)
  | .bm a m es => (match dCallA e with
    | some ⟨(o, y, _, xs, _), _⟩ => ck N sc ns a o && decide ((bmName m).1 = y) && decide ((bmName m).2 = xs.length) && ckEs N sc ns es xs && notSuper o
    | none => false)
  | .isinst a t => (match dCallN e with
    | some ⟨(f, _, xs, _), _⟩ => (match two xs with
      | some ⟨(x, y), _⟩ => (match dName y with
        | some ⟨(y, _), _⟩ => isGlob sc f && decide (f = ("isinstance" : Str)) && isGlob sc y && ck N sc ns a x && tyOk N y t
        | none => false)
      | none => false)
    | none => false)
  | .comp elt it cond => (match dComp e with
    | some ⟨(el, gs, csc, _), _⟩ => (match gen1 gs with
      | some ⟨(x, _, i, ifs), _⟩ => ck N sc ns it i && notSet i && compOk sc csc x && ck N csc (inner csc ns ++ [some x]) elt el && ckC N csc (inner csc ns ++ [some x]) cond ifs
      | none => false)
    | none => false)
noncomputable def ckO (N : Names) (sc : Scope) (ns : List (Option Str)) : MEo → Option Expr → Bool
  | .none, none => true
  | .some e, some x => ck N sc ns e x
  | _, _ => false
noncomputable def ckC (N : Names) (sc : Scope) (ns : List (Option Str)) : MEo → List Expr → Bool
  | .none, [] => true
  | .some e, [x] => ck N sc ns e x
  | _, _ => false
noncomputable def ckEs (N : Names) (sc : Scope) (ns : List (Option Str)) : MEs → List Expr → Bool
  | .nil, [] => true
  | .cons e es, x :: xs => ck N sc ns e x && ckEs N sc ns es xs
  | _, _ => false
end

/-! forms of statements -/
noncomputable def asPass (st : Stmt) : Option { p : Pos // st = .Pass p } := match st with
  | .Pass pos => some ⟨pos, rfl⟩
  | _ => none
noncomputable def asExpr (st : Stmt) : Option { p : Expr × Pos // st = .Expr p.1 p.2 } := match st with
  | .Expr x pos => some ⟨(x, pos), rfl⟩
  | _ => none
/- an assignment to one target -/
noncomputable def dAsg (st : Stmt) : Option { p : Expr × Expr × Pos // st = .Assign [p.1] p.2.1 p.2.2 } := match st with
  | .Assign ts x pos => (match one ts with
    | some ⟨t, h⟩ => some ⟨(t, x, pos), by dsimp only; rw [h]⟩
    | none => none)
  | _ => none
noncomputable def asName (st : Stmt) : Option { p : Str × Pos × Expr × Pos // st = .Assign [.Name p.1 p.2.1] p.2.2.1 p.2.2.2 } := match dAsg st with
  | some ⟨(t, x, pos), h⟩ => (match dName t with
    | some ⟨(y, py), hn⟩ => some ⟨(y, py, x, pos), h.trans (by dsimp only at hn ⊢; rw [hn])⟩
    | none => none)
  | none => none
noncomputable def asRet (st : Stmt) : Option { p : Option Expr × Pos // st = .Return p.1 p.2 } := match st with
  | .Return x pos => some ⟨(x, pos), rfl⟩
  | _ => none
noncomputable def asIf (st : Stmt) : Option { p : Expr × List Stmt × List Stmt × Pos // st = .If p.1 p.2.1 p.2.2.1 p.2.2.2 } := match st with
  | .If x ts fs pos => some ⟨(x, ts, fs, pos), rfl⟩
  | _ => none
noncomputable def dFor (st : Stmt) : Option { p : Expr × Expr × List Stmt × Pos // st = .For p.1 p.2.1 p.2.2.1 [] p.2.2.2 } := match st with
  | .For t x ts fs pos => (match nilL fs with
    | some ⟨_, h⟩ => some ⟨(t, x, ts, pos), by dsimp only; rw [h]⟩
    | none => none)
  | _ => none
noncomputable def asFor1 (st : Stmt) : Option { p : Str × Pos × Expr × List Stmt × Pos // st = .For (.Name p.1 p.2.1) p.2.2.1 p.2.2.2.1 [] p.2.2.2.2 } := match dFor st with
  | some ⟨(t, x, ts, pos), h⟩ => (match dName t with
    | some ⟨(y, py), hn⟩ => some ⟨(y, py, x, ts, pos), h.trans (by dsimp only at hn ⊢; rw [hn])⟩
    | none => none)
  | none => none
noncomputable def pairN (t : Expr) : Option { p : Str × Pos × Str × Pos × Nat × Pos // t = .Tuple [.Name p.1 p.2.1, .Name p.2.2.1 p.2.2.2.1] p.2.2.2.2.1 p.2.2.2.2.2 } := match dTup t with
  | some ⟨(xs, k, pt), h⟩ => (match two xs with
    | some ⟨(a, b), h2⟩ => (match dName a, dName b with
      | some ⟨(y, py), h3⟩, some ⟨(z, pz), h4⟩ => some ⟨(y, py, z, pz, k, pt), h.trans (by dsimp only at h2 h3 h4 ⊢; rw [h2, h3, h4])⟩
      | _, _ => none)
    | none => none)
  | none => none
noncomputable def asFor2 (st : Stmt) : Option { p : (Str × Pos × Str × Pos × Nat × Pos) × Expr × List Stmt × Pos // st = .For (.Tuple [.Name p.1.1 p.1.2.1, .Name p.1.2.2.1 p.1.2.2.2.1] p.1.2.2.2.2.1 p.1.2.2.2.2.2) p.2.1 p.2.2.1 [] p.2.2.2 } := match dFor st with
  | some ⟨(t, x, ts, pos), h⟩ => (match pairN t with
    | some ⟨q, hn⟩ => some ⟨(q, x, ts, pos), h.trans (by dsimp only; rw [hn])⟩
    | none => none)
  | none => none
noncomputable def asCall2 (e : Expr) : Option { p : Str × Pos × Expr × Expr × Pos // e = .Call (.Name p.1 p.2.1) [p.2.2.1, p.2.2.2.1] [] p.2.2.2.2 } := match dCallN e with
  | some ⟨(f, fp, xs, cp), h⟩ => (match two xs with
    | some ⟨(x, y), h2⟩ => some ⟨(f, fp, x, y, cp), h.trans (by dsimp only at h2 ⊢; rw [h2])⟩
    | none => none)
  | none => none
noncomputable def notComp : ME → Bool
  | .comp .. => false
  | _ => true

mutual
noncomputable def ckS (N : Names) (sc : Scope) (ns : List (Option Str)) (m : MS) (st : Stmt) : Bool :=
  match m with
  | .pass => (asPass st).isSome
  | .expr e => (match asExpr st with
    | some ⟨(x, _), _⟩ => ck N sc ns e x && notComp e
    | none => false)
  | .assign i e => (match asName st with
    | some ⟨(y, _, x, _), _⟩ => isOwn sc ns i y && ck N sc ns e x
    | none => false)
  | .ret e => (match asRet st with
    | some ⟨(x, _), _⟩ => ckO N sc ns e x
    | none => false)
  | .ite c t f => (match asIf st with
    | some ⟨(x, ts, fs, _), _⟩ => ck N sc ns c x && ckSs N sc ns t ts && ckSs N sc ns f fs
    | none => false)
  | .each i it b => (match asFor1 st with
    | some ⟨(y, _, x, ts, _), _⟩ => isOwn sc ns i y && ck N sc ns it x && notSet x && ckSs N sc ns b ts
    | none => false)
  | .eachZip i j a b body => (match asFor2 st with
    | some ⟨((y, _, z, _), x, ts, _), _⟩ => isOwn sc ns i y && isOwn sc ns j z && ckSs N sc ns body ts && (match asCall2 x with
      | some ⟨(f, _, p, q, _), _⟩ => isGlob sc f && decide (f = ("zip" : Str)) && ck N sc ns a p && ck N sc ns b q
      | none => false)
    | none => false)
noncomputable def ckSs (N : Names) (sc : Scope) (ns : List (Option Str)) : MSs → List Stmt → Bool
  | .nil, [] => true
  | .cons s ss, x :: xs => ckS N sc ns s x && ckSs N sc ns ss xs
  | _, _ => false
end

/- a def's parameters, scope and body -/
noncomputable def nodupS : List (Option Str) → Bool
  | [] => true
  | none :: r => nodupS r
  | some x :: r => !(r.contains (some x)) && nodupS r
noncomputable def ckF (N : Names) (f : MFun) (ns : List Str) (params : Arguments) (body : List Stmt) (sc : Scope) : Bool :=
  decide (f.arity + f.nvars = ns.length) && decide (ns.take f.arity = params.args.map (·.arg)) && params.posonlyargs.isEmpty && params.vararg.isNone && params.kwonlyargs.isEmpty && params.kwarg.isNone && params.defaults.isEmpty && params.kw_defaults.isEmpty &&
  nodupS (ns.map some) && !sc.isCoroutine && !sc.isGenerator && (match sc.kind with | .function => true | _ => false) && ckSs N sc (ns.map some) f.body body &&
  (sc.names.all fun p => (match p.2 with
    | .local => (match sc.names.lookup p.1 with | some .local => true | _ => false)
    | .cell => (match sc.names.lookup p.1 with | some .cell => true | _ => false)
    | .globalImplicit => (match sc.names.lookup p.1 with | some .globalImplicit => true | _ => false)
    | _ => false)) &&
  (ns.take f.arity).all fun y => (match sc.names.lookup y with | some .local => true | some .cell => true | _ => false)
end Mine

-- part MOps
namespace Mine
open PySem

section
variable {α β : Type} {cx : Cx} {A : Around} {P : Amb} {H : Hp} {ρ : Rho} {s : Shared} {t : Sem α} {V : β → α → Amb}

theorem simAt_pure {b : β} (R : Rel cx H ρ s) (k : ∀ (Q : α → Shared → Prop) (E : Value → Shared → Prop), (∀ a tk, (V b a).P ρ s.heap → Q a { s with toks := tk }) → wpAny (model cx.prog cx.w) A t Q E s) : SimAt cx A (.ok b H) t V ρ s :=
  k _ _ fun a tk v => ⟨ρ, Full.refl _ _, R.toks tk, v⟩
/- a new list -/
theorem Rel.newList {xs : List Val} {vs : List Value} (tk : Nat) (R : Rel cx H ρ s) (r : VRs cx ρ s.heap xs vs) (z : xs.length ≤ sizeLine) :
    ∃ ρ', Full ρ s.heap ρ' (s.heap.push (listO vs 0)) ∧ Rel cx (H ++ [.list xs]) ρ' { s with heap := s.heap.push (listO vs 0), toks := tk } ∧ VR cx ρ' (s.heap.push (listO vs 0)) (.loc H.length) (.ref s.heap.objs.size) := by
  have kp : ∀ b o, s.heap.get? b = some o → (s.heap.push (listO vs 0)).get? b = some o := fun b o e => Heap.get?_push_of_some _ e
  obtain ⟨F, R'⟩ := R.alloc (tk := tk) (o := .list xs) (p := (s.heap.objs.size, s.heap.objs.size)) kp ⟨fresh_none _, fresh_none _⟩ (Nat.le_refl _)
    (.list (n := 0) (Heap.get?_push_size _ rfl) (r.step (Full.alloc kp ⟨fresh_none _, fresh_none _⟩).step) z)
  refine ⟨_, F, R', ?_⟩
  rw [R.len]
  exact VR.loc (p := (s.heap.objs.size, s.heap.objs.size)) (by rw [List.getElem?_append_right (Nat.le_refl _)]; simp)
theorem simAt_list {t : Sem Value} {xs : List Val} {vs : List Value} {tk : Nat} (R : Rel cx H ρ s) (r : VRs cx ρ s.heap xs vs) (z : xs.length ≤ sizeLine)
    (k : ∀ (Q : Value → Shared → Prop) (E : Value → Shared → Prop), Q (.ref s.heap.objs.size) { s with heap := s.heap.push (listO vs 0), toks := tk } → wpAny (model cx.prog cx.w) A t Q E s) :
    SimAt cx A (.ok (.loc H.length) (H ++ [.list xs])) t (Amb.vr cx) ρ s :=
  k _ _ (R.newList tk r z)
/- a new tuple -/
/- a list is turned -/
end

theorem sizeLine_lid : lid = sizeLine := by rw [sizeLine_eq]; rfl

section
variable {cx : Cx} {A : Around} {P : Amb} {a b : Val} {v w : Value}

theorem small_ok {x : Int} (h : small x = true) : Builtin.Int.intBits x ≤ 64 := by
  unfold small at h
  simp only [Bool.and_eq_true, decide_eq_true_eq] at h
  exact intBits_le_64 h.1 h.2

/- the list at a place of the mini heap -/
theorem Rel.listAt {H : Hp} {ρ : Rho} {s : Shared} (R : Rel cx H ρ s) {l : Nat} {xs : List Val} {p : Addr × Addr} (hH : H[l]? = some (.list xs)) (hρ : ρ[l]? = some p) :
    ∃ vs n, p.2 = p.1 ∧ s.heap.get? p.1 = some (listO vs n) ∧ VRs cx ρ s.heap xs vs ∧ xs.length ≤ sizeLine := by
  have := R.objs l _ p hH hρ
  generalize ho : HObj.list xs = o at this
  cases this with
  | list e r z => cases ho; exact ⟨_, _, rfl, e, r, z⟩
  | dict _ _ _ => cases ho
  | inst _ _ _ _ _ _ _ _ _ => cases ho
  | hid _ => cases ho

/-! what a value stands for, by its make -/
theorem VR.int_inv {ρ : Rho} {h : Heap} {i : Int} (x : VR cx ρ h (.int i) v) : ∃ t, v = .int i t := by cases x; exact ⟨_, rfl⟩
theorem VR.str_inv {ρ : Rho} {h : Heap} {i : Str} (x : VR cx ρ h (.str i) v) : ∃ t, v = .str i t ∧ i.length ≤ sizeLine := by cases x; exact ⟨_, rfl, by assumption⟩
theorem VR.loc_inv {ρ : Rho} {h : Heap} {l : Nat} (x : VR cx ρ h (.loc l) v) : ∃ p, ρ[l]? = some p ∧ v = .ref p.1 := by cases x; exact ⟨_, by assumption, rfl⟩

theorem VRs.nil_inv {ρ : Rho} {h : Heap} {vs : List Value} (x : VRs cx ρ h [] vs) : vs = [] := by cases x; rfl
theorem VRs.cons_inv {ρ : Rho} {h : Heap} {m : Val} {ms : List Val} {vs : List Value} (x : VRs cx ρ h (m :: ms) vs) : ∃ v vs', vs = v :: vs' ∧ VR cx ρ h m v ∧ VRs cx ρ h ms vs' := by cases x; exact ⟨_, _, rfl, by assumption, by assumption⟩
theorem VRs.one_inv {ρ : Rho} {h : Heap} {m : Val} {vs : List Value} (x : VRs cx ρ h [m] vs) : ∃ v, vs = [v] ∧ VR cx ρ h m v := by
  obtain ⟨v, vs', rfl, y, z⟩ := x.cons_inv
  exact ⟨v, by rw [z.nil_inv], y⟩
theorem VRs.two_inv {ρ : Rho} {h : Heap} {m n : Val} {vs : List Value} (x : VRs cx ρ h [m, n] vs) : ∃ v w, vs = [v, w] ∧ VR cx ρ h m v ∧ VR cx ρ h n w := by
  obtain ⟨v, vs', rfl, y, z⟩ := x.cons_inv
  obtain ⟨w, rfl, u⟩ := z.one_inv
  exact ⟨v, w, rfl, y, u⟩
theorem replicate_fold (v : Value) : ∀ (n : Nat) (acc : Array Value), List.foldl (fun (x1 x2 : Array Value) => x1 ++ x2) acc (List.replicate n #[v]) = acc ++ (List.replicate n v).toArray
  | 0, acc => by simp
  | n + 1, acc => by
    rw [List.replicate_succ, List.foldl_cons, replicate_fold v n]
    apply Array.toList_inj.mp
    simp [List.replicate_succ]
theorem wp_rep {s : Shared} {l : Addr} {u : Value} {k : Nat} {x : Int} {t : Tok} {Q : Value → Shared → Prop} {E : Value → Shared → Prop} (hl : s.heap.get? l = some (listO [u] k)) (h0 : 0 ≤ x) (h1 : x ≤ 1000)
    (h : Q (.ref s.heap.objs.size) { s with heap := s.heap.push (listO (List.replicate x.toNat u) 0) }) : wpAny (model cx.prog cx.w) A (binaryOp .Mult (.ref l) (.int x t)) Q E s := by
  refine wpAny_binaryOp_repeat_ref (T := "list") (U := "int") (by decide) ⟨_, hl, rfl⟩ (fun s' => typeIs_int s' x t) noFill_list_mul F.fills_int_mul F.slot_int_rmul repeat_list F.slot_int_index.lookup
    (call_meets F.slot_int_rmul (typeIs_int s x t) F.entry_int_rmul (F.args_int_rmul_2 _ _) (int___rmul___int_list x t l #[u] k)
      ⟨hl, rfl, ⟨_, hl, rfl⟩, call_meets F.slot_list_mul ⟨_, hl, rfl⟩ F.entry_list_mul (F.args_list_mul_2 _ _)
        (AutoListH.list___mul___list_int_3 l #[u] k x t (by simp [Builtin.List.listFitsIndex]; omega) (by have e1 : (#[u] : Array Value).size = 1 := rfl; rw [e1]; omega) (by have e1 : (#[u] : Array Value).size = 1 := rfl; rw [Builtin.List.listTooLong, e1]; simp [sizeLine]; omega))
        ⟨hl, ?_⟩⟩)
  have e : (if (#[u] : Array Value).isEmpty = true then 0 else x.toNat) = x.toNat := rfl
  rw [e, replicate_fold]
  simpa [listO] using h

theorem sim_bin {op : BOp} {o : Operator} (ho : opOk op o = true) (h1 : ∀ ρ h, P.P ρ h → VR cx ρ h a v) (h2 : ∀ ρ h, P.P ρ h → VR cx ρ h b w) : Sim cx A P (binaryOp o v w) (binV op a b) (Amb.vr cx) := by
  intro H ρ s R p
  have x1 := h1 _ _ p
  have x2 := h2 _ _ p
  clear h1 h2 p
  have ho' : bOp op = o := of_decide_eq_true ho
  subst ho'
  clear ho
  cases op with
  | add =>
    cases a with
    | int i =>
      cases b with
      | int j =>
        obtain ⟨_, rfl⟩ := x1.int_inv
        obtain ⟨_, rfl⟩ := x2.int_inv
        exact simAt_pure R fun Q E k => PyProof.Rows.add_int (k _ _ (.int _ _))
      | _ => trivial
    | str x =>
      cases b with
      | str y =>
        obtain ⟨_, rfl, _⟩ := x1.str_inv
        obtain ⟨_, rfl, _⟩ := x2.str_inv
        show SimAt cx A ((if x.length + y.length ≤ lid then M.ret (Val.str (x ++ y)) else M.bad) H) _ _ ρ s
        by_cases q : x.length + y.length ≤ lid
        · rw [if_pos q]
          rw [sizeLine_lid] at q
          exact simAt_pure R fun Q E k => PyProof.Rows.add_str (fun t' tk => k _ _ (.str _ _ (by rw [strLen_append]; exact q))) q
        · rw [if_neg q]; trivial
      | _ => trivial
    | loc l1 =>
      cases b with
      | loc l2 =>
        obtain ⟨p1, e1, rfl⟩ := x1.loc_inv
        obtain ⟨p2, e2, rfl⟩ := x2.loc_inv
        show SimAt cx A (match H[l1]?, H[l2]? with
          | some (.list xs), some (.list ys) => if xs.length + ys.length ≤ lid then M.alloc (.list (xs ++ ys)) H else .bad
          | _, _ => .bad) _ _ ρ s
        split
        · rename_i xs ys q1 q2
          obtain ⟨vs, n, _, g1, r1, _⟩ := R.listAt q1 e1
          obtain ⟨ws, m, _, g2, r2, _⟩ := R.listAt q2 e2
          by_cases q : xs.length + ys.length ≤ lid
          · rw [if_pos q]
            rw [sizeLine_lid] at q
            refine simAt_list (vs := vs ++ ws) (tk := s.toks) R (r1.append r2) (by rw [List.length_append]; exact q) fun Q E k => ?_
            refine PySem.P.add_list (items := vs.toArray) (items2 := ws.toArray) (n := n) (n2 := m) g1 g2 ?_ (by simp only [List.size_toArray]; rw [← r1.length, ← r2.length]; exact q)
            simpa [listO] using k
          · rw [if_neg q]; trivial
        · trivial
      | _ => trivial
    | _ => trivial
  | sub =>
    cases a with
    | int i =>
      cases b with
      | int j =>
        obtain ⟨_, rfl⟩ := x1.int_inv
        obtain ⟨_, rfl⟩ := x2.int_inv
        exact simAt_pure R fun Q E k => PyProof.Rows.sub_int (k _ _ (.int _ _))
      | _ => trivial
    | _ => trivial
  | mul =>
    cases a with
    | int i =>
      cases b with
      | int j =>
        obtain ⟨_, rfl⟩ := x1.int_inv
        obtain ⟨_, rfl⟩ := x2.int_inv
        show SimAt cx A ((if (small i || small j) = true then M.ret (Val.int (i * j)) else M.bad) H) _ _ ρ s
        by_cases q : (small i || small j) = true
        · rw [if_pos q]
          refine simAt_pure R fun Q E k => PyProof.Rows.mul_int (k _ _ (.int _ _)) ?_
          rcases (Bool.or_eq_true _ _).mp q with q | q
          · exact IntMulOk.of_left (small_ok q)
          · exact IntMulOk.of_right (small_ok q)
        · rw [if_neg q]; trivial
      | _ => trivial
    | loc l1 =>
      cases b with
      | int j =>
        obtain ⟨p1, e1, rfl⟩ := x1.loc_inv
        obtain ⟨_, rfl⟩ := x2.int_inv
        show SimAt cx A (match H[l1]? with
          | some (.list [v]) => if 0 ≤ j ∧ j ≤ 1000 then M.alloc (.list (List.replicate j.toNat v)) H else .bad
          | _ => .bad) _ _ ρ s
        split
        · rename_i y q1
          obtain ⟨vs, n, _, g1, r1, _⟩ := R.listAt q1 e1
          by_cases q : 0 ≤ j ∧ j ≤ 1000
          · rw [if_pos q]
            obtain ⟨u, rfl, r2⟩ := r1.one_inv
            refine simAt_list (vs := List.replicate _ u) (tk := s.toks) R (VRs.replicate r2 _) (by rw [List.length_replicate, sizeLine_eq]; omega) fun Q E k => ?_
            exact wp_rep g1 q.1 q.2 k
          · rw [if_neg q]; trivial
        · trivial
      | _ => trivial
    | _ => trivial
  | fdiv =>
    cases a with
    | int i =>
      cases b with
      | int j =>
        obtain ⟨_, rfl⟩ := x1.int_inv
        obtain ⟨_, rfl⟩ := x2.int_inv
        show SimAt cx A ((if j = 0 ∨ 1073741824 ≤ j.natAbs then M.bad else M.ret (Val.int (Int.fdiv i j))) H) _ _ ρ s
        by_cases q : j = 0 ∨ 1073741824 ≤ j.natAbs
        · rw [if_pos q]; trivial
        · rw [if_neg q]
          exact simAt_pure R fun Q E k => PyProof.Rows.floordiv_int (fun e => q (.inl e)) (k _ _ (.int _ _)) (.inl (PyProof.noPylong_small (by omega)))
      | _ => trivial
    | _ => trivial
  | mod =>
    cases a with
    | int i =>
      cases b with
      | int j =>
        obtain ⟨_, rfl⟩ := x1.int_inv
        obtain ⟨_, rfl⟩ := x2.int_inv
        show SimAt cx A ((if j = 0 then M.bad else M.ret (Val.int (Int.fmod i j))) H) _ _ ρ s
        by_cases q : j = 0
        · rw [if_pos q]; trivial
        · rw [if_neg q]
          exact simAt_pure R fun Q E k => PyProof.Rows.mod_int' q (k _ _ (.int _ _))
      | _ => trivial
    | _ => trivial
end
end Mine

-- part MExpr
namespace Mine
open PySem

structure FnOk (cx : Cx) (N : Names) (a : Addr) (f : MFun) : Prop where
  is : ∃ o fd body ns, cx.h₀.get? a = some o ∧ o.cls = .type "function" ∧ o.data = .func fd ∧ cx.h₀.CodeRec fd.code fd.qualname ∧ fd.body = .stmts body ∧ fd.closure = [] ∧ fd.globals = mainGlobals ∧ fd.builtins = builtinsNs ∧
    fd.defaults = .none ∧ fd.kwdefaults = .none ∧ ckF N f ns fd.params body fd.scope = true
structure Base (cx : Cx) (N : Names) : Prop where
  ns : ∃ mg mb, cx.h₀.Ns mainGlobals mg ∧ cx.h₀.Ns builtinsNs mb ∧
    (∀ x k, N.funs.lookup x = some k → ∃ a, cx.fns[k]? = some a ∧ mg x = some (.ref a)) ∧
    (∀ x k, N.globs.lookup x = some k → ∃ v val, cx.T.globs[k]? = some v ∧ mg x = some val ∧ ∀ ρ h, VR cx ρ h v val) ∧
    (∀ x c, N.clss.lookup x = some c → ∃ C, cx.cls[c]? = some C ∧ (mg x = some C ∨ (mg x = none ∧ mb x = some C))) ∧
    (∀ p ∈ bltTab, mg p.1 = none ∧ mb p.1 = some p.2)
  lim : cx.h₀.NoLimit
  fns : ∀ (k : Nat) (a : Addr) (f : MFun), cx.fns[k]? = some a → cx.T.funs[k]? = some f → FnOk cx N a f

theorem hasNo_eq {l : List (Str × Nat)} {x : Str} {k : Nat} (h : hasNo l x k = true) : l.lookup x = some k := by
  unfold hasNo at h
  split at h
  · rename_i j e
    rw [e, of_decide_eq_true h]
  · cases h
theorem isGlob_eq {sc : Scope} {x : Str} (h : isGlob sc x = true) : sc.names.lookup x = some .globalImplicit ∧ (x == ("__debug__" : Str)) = false := by
  unfold isGlob at h
  rw [Bool.and_eq_true] at h
  refine ⟨?_, by simpa using h.2⟩
  have := h.1
  split at this
  · assumption
  · cases this
theorem isVar_eq {sc : Scope} {ns : List (Option Str)} {i : Nat} {x : Str} (h : isVar sc ns i x = true) :
    (sc.names.lookup x = some .local ∨ sc.names.lookup x = some .cell ∨ sc.names.lookup x = some .free) ∧ ns[i]? = some (some x) ∧ (x == ("__debug__" : Str)) = false ∧ (x == ("__classdict__" : Str)) = false := by
  unfold isVar at h
  simp only [Bool.and_eq_true, Bool.not_eq_true'] at h
  obtain ⟨⟨⟨h1, h2⟩, h3⟩, h4⟩ := h
  refine ⟨?_, ?_, h3, h4⟩
  · split at h1 <;> simp_all
  · split at h2
    · rename_i y e; rw [e, of_decide_eq_true h2]
    · cases h2

section
variable {cx : Cx} {N : Names} {A : Around} {env : Env} {sc : Scope} {ns : List (Option Str)} {Γ : Env'}

theorem sim_var {i : Nat} {x : Str} {pos : Pos} (hv : isVar sc ns i x = true) (Φ : Funs) : Sim cx A (Amb.env cx env sc ns Γ) (eval (.Name x pos) env) (evalE cx.T Φ (.var i) Γ) (Amb.vr cx) := by
  obtain ⟨_, hn, hd, hc⟩ := isVar_eq hv
  intro H ρ s R p
  rw [evalE]
  cases e : Γ[i]? with
  | none => trivial
  | some o =>
    cases o with
    | none => trivial
    | some mv =>
      obtain ⟨v, q, r⟩ := p.vals i x mv hn e
      refine simAt_pure R fun Q E k => ?_
      have k' := k v s.toks r
      rcases q with ⟨kd, m, hm, hv⟩ | ⟨kd, c, hc', hv⟩
      · exact wpAny_Name (wpAny_loadName_local p.st.fn kd hm hv k') hd
      · rcases kd with kd | kd
        · exact wpAny_Name (wpAny_loadName_cell p.st.fn kd hc' hv k') hd
        · exact wpAny_Name (wpAny_loadName_free p.st.fn kd hc' hv k' hc) hd

/- a global name -/
theorem wp_glob {ρ : Rho} {s : Shared} {H : Hp} {x : Str} {pos : Pos} {mg mb : Str → Option Value} {v : Value} {Q : Value → Shared → Prop} {E : Value → Shared → Prop} (R : Rel cx H ρ s) (p : EnvSt cx env sc ρ s.heap) (hg : isGlob sc x = true)
    (ng : cx.h₀.Ns mainGlobals mg) (nb : cx.h₀.Ns builtinsNs mb) (hv : mg x = some v ∨ (mg x = none ∧ mb x = some v)) (h : Q v s) : wpAny (model cx.prog cx.w) A (eval (.Name x pos) env) Q E s := by
  obtain ⟨h1, h2⟩ := isGlob_eq hg
  have kd : env.kindOf x = some .globalImplicit := p.kinds x _ h1
  have ng' : s.heap.Ns env.globals mg := by rw [p.glob]; exact ng.keeps R.base
  have nb' : s.heap.Ns env.builtins mb := by rw [p.blt]; exact nb.keeps R.base
  refine Calls.Name_function_global p.fn kd ?_ h2
  rcases hv with hv | ⟨h0, hv⟩
  · exact Calls.loadGlobal_global ng' hv h
  · exact Calls.loadGlobal_builtin ng' h0 nb' hv h
theorem sim_glob (B : Base cx N) {k : Nat} {x : Str} {pos : Pos} (hg : isGlob sc x = true) (hk : hasNo N.globs x k = true) (Φ : Funs) : Sim cx A (Amb.env cx env sc ns Γ) (eval (.Name x pos) env) (evalE cx.T Φ (.glob k) Γ) (Amb.vr cx) := by
  obtain ⟨mg, mb, ng, nb, _, q, _⟩ := B.ns
  obtain ⟨v, val, e1, e2, r⟩ := q x k (hasNo_eq hk)
  intro H ρ s R p
  rw [evalE, e1]
  exact simAt_pure R fun Q E k => wp_glob R p.st hg ng nb (.inl e2) (k _ s.toks (r _ _))

theorem sim_truthy {a : Val} {v : Value} {P : Amb} (h : ∀ ρ h, P.P ρ h → VR cx ρ h a v) : Sim cx A P (truthy v) (truth a) (fun b b' => Amb.prop (b' = b)) := by
  intro H ρ s R p
  have x := h _ _ p
  cases x with
  | bool b => exact simAt_pure R fun Q E k => wpAny_truthy_bool (k _ s.toks rfl)
  | _ => trivial
theorem sim_neg {a : Val} {v : Value} {P : Amb} (h : ∀ ρ h, P.P ρ h → VR cx ρ h a v) : Sim cx A P (unaryOp .USub v) (match a with | .int i => M.ret (Val.int (-i)) | _ => .bad) (Amb.vr cx) := by
  intro H ρ s R p
  have x := h _ _ p
  cases x with
  | int i t => exact simAt_pure R fun Q E k => PyProof.Rows.neg_int (k _ _ (.int _ _))
  | _ => trivial
theorem sim_not {a : Val} {v : Value} {P : Amb} (h : ∀ ρ h, P.P ρ h → VR cx ρ h a v) : Sim cx A P (unaryOp .Not v) ((truth a).bnd fun b => M.ret (Val.bool (!b))) (Amb.vr cx) := by
  intro H ρ s R p
  have x := h _ _ p
  cases x with
  | bool b => exact simAt_pure R fun Q E k => not_value (wpAny_truthy_bool (k _ s.toks (.bool _)))
  | _ => trivial
end
end Mine

-- part MCmp
namespace Mine
open PySem

/-! ## data -/
section
variable {cx : Cx} {H : Hp} {ρ : Rho} {s : Shared}
theorem reads_dats {n : Nat} {f : Val → Option PyData} (ih : ∀ {m : Val} {v : Value} {d : PyData}, VR cx ρ s.heap m v → f m = some d → (∃ as, Reads s.heap v d as) ∧ d.canLay0 = true ∧ d.depth ≤ n) :
    ∀ {xs : List Val} {vs : List Value} {ds : List PyData}, VRs cx ρ s.heap xs vs → dats f xs = some ds → (∃ as, ReadsAll s.heap vs ds as) ∧ PyData.canLayAll0 ds = true ∧ PyData.depthAll ds ≤ n := by
  intro xs
  induction xs with
  | nil =>
    intro vs ds r h
    cases r
    simp [dats] at h; subst h
    exact ⟨⟨_, .nil⟩, by simp [PyData.canLayAll0], by simp [PyData.depthAll]⟩
  | cons x xs hi =>
    intro vs ds r h
    cases r with
    | cons a r =>
      simp only [dats] at h
      split at h
      · rename_i d ds' e1 e2
        cases h
        obtain ⟨⟨as, h1⟩, h2, h3⟩ := ih a e1
        obtain ⟨⟨bs, g1⟩, g2, g3⟩ := hi r e2
        exact ⟨⟨_, .cons h1 g1⟩, by simp [PyData.canLayAll0, h2, g2], by simp only [PyData.depthAll]; omega⟩
      · cases h
theorem reads_data (R : Rel cx H ρ s) : ∀ (n : Nat) {m : Val} {v : Value} {d : PyData}, VR cx ρ s.heap m v → dataOf H n m = some d → (∃ as, Reads s.heap v d as) ∧ d.canLay0 = true ∧ d.depth ≤ n := by
  intro n
  induction n with
  | zero =>
    intro m v d x h
    cases x with
    | none => simp [dataOf] at h; subst h; exact ⟨⟨_, .none⟩, by simp [PyData.canLay0], by simp [PyData.depth]⟩
    | bool b => simp [dataOf] at h; subst h; exact ⟨⟨_, .bool b⟩, by simp [PyData.canLay0], by simp [PyData.depth]⟩
    | int i t => simp [dataOf] at h; subst h; exact ⟨⟨_, .int i t⟩, by simp [PyData.canLay0], by simp [PyData.depth]⟩
    | str y t z => simp [dataOf] at h; obtain ⟨h1, rfl⟩ := h; exact ⟨⟨_, .str y t⟩, by simp [PyData.canLay0, h1], by simp [PyData.depth]⟩
    | _ => simp [dataOf] at h
  | succ n ih =>
    intro m v d x h
    cases x with
    | none => simp [dataOf] at h; subst h; exact ⟨⟨_, .none⟩, by simp [PyData.canLay0], by simp [PyData.depth]⟩
    | bool b => simp [dataOf] at h; subst h; exact ⟨⟨_, .bool b⟩, by simp [PyData.canLay0], by simp [PyData.depth]⟩
    | int i t => simp [dataOf] at h; subst h; exact ⟨⟨_, .int i t⟩, by simp [PyData.canLay0], by simp [PyData.depth]⟩
    | str y t z => simp [dataOf] at h; obtain ⟨h1, rfl⟩ := h; exact ⟨⟨_, .str y t⟩, by simp [PyData.canLay0, h1], by simp [PyData.depth]⟩
    | @tup a vs k ms e no z r =>
      simp only [dataOf, Option.map_eq_some_iff] at h
      obtain ⟨ds, h1, rfl⟩ := h
      obtain ⟨⟨as, g1⟩, g2, g3⟩ := reads_dats (n := n) (fun x h => ih x h) r h1
      exact ⟨⟨_, .tuple e rfl rfl (by simpa using g1)⟩, by simp [PyData.canLay0, g2], by simp only [PyData.depth]; omega⟩
    | @loc l p e =>
      simp only [dataOf] at h
      split at h
      · rename_i xs hl
        simp only [Option.map_eq_some_iff] at h
        obtain ⟨ds, h1, rfl⟩ := h
        obtain ⟨vs, k, _, g, r, _⟩ := R.listAt hl e
        obtain ⟨⟨as, g1⟩, g2, g3⟩ := reads_dats (n := n) (fun x h => ih x h) r h1
        exact ⟨⟨_, .list g rfl rfl (by simpa using g1)⟩, by simp [PyData.canLay0, g2], by simp only [PyData.depth]; omega⟩
      · cases h
    | _ => simp [dataOf] at h
end

section
variable {cx : Cx} {A : Around} {P : Amb} {a b : Val} {v w : Value} {H : Hp} {ρ : Rho} {s : Shared}

theorem shaped_of {d : PyData} {n : Nat} (h : d.canLay0 = true) (k : d.depth ≤ n) (z : n ≤ 64 := by decide) : SeqAt.shaped d = true := by
  unfold SeqAt.shaped; rw [h, Bool.true_and]; exact decide_eq_true (Nat.le_trans k z)

/- == and != -/
theorem wp_eq (R : Rel cx H ρ s) (x : VR cx ρ s.heap a v) (y : VR cx ρ s.heap b w) {r : Bool} (e : pyEq H a b = some r) (hu : A.units + 100 < cLine) {Q : Value → Shared → Prop} {E : Value → Shared → Prop} (k : Q (.bool r) s) :
    wpAny (model cx.prog cx.w) A (compareOp .Eq v w) Q E s := by
  unfold pyEq at e
  split at e
  · rename_i d1 d2 e1 e2
    cases e
    obtain ⟨⟨as, g1⟩, g2, g3⟩ := reads_data R deep x e1
    obtain ⟨⟨bs, f1⟩, f2, f3⟩ := reads_data R deep y e2
    exact SeqAt.compareEq_shaped g1 f1 (shaped_of g2 g3) (shaped_of f2 f3) (by omega) k
  · cases e
theorem wp_ne (R : Rel cx H ρ s) (x : VR cx ρ s.heap a v) (y : VR cx ρ s.heap b w) {r : Bool} (e : pyEq H a b = some r) (hu : A.units + 100 < cLine) {Q : Value → Shared → Prop} {E : Value → Shared → Prop} (k : Q (.bool (!r)) s) :
    wpAny (model cx.prog cx.w) A (compareOp .NotEq v w) Q E s := by
  unfold pyEq at e
  split at e
  · rename_i d1 d2 e1 e2
    cases e
    obtain ⟨⟨as, g1⟩, g2, g3⟩ := reads_data R deep x e1
    obtain ⟨⟨bs, f1⟩, f2, f3⟩ := reads_data R deep y e2
    exact SeqAt.compareNe_shaped g1 f1 (shaped_of g2 g3) (shaped_of f2 f3) (by omega) k
  · cases e

theorem flip_some {o : Option Bool} {r : Bool} (h : flip true o = some r) : ∃ r', o = some r' ∧ r = !r' := by
  cases o with
  | none => simp [flip] at h
  | some b => refine ⟨b, rfl, ?_⟩; simp [flip] at h; rw [h]; simp

theorem isV_none_val {r : Bool} (x : VR cx ρ s.heap a v) (h : isV a .none = some r) : r = (v == .none) := by
  cases x <;> simp_all [isV]
theorem isV_bool_val {r y : Bool} (x : VR cx ρ s.heap a v) (h : isV a (.bool y) = some r) : plainIs v (.bool y) = true ∧ r = (v == .bool y) := by
  cases x <;> simp_all [isV, plainIs]
  rename_i b
  rw [← h]; cases b <;> cases y <;> rfl

theorem Rel.dictAt (R : Rel cx H ρ s) {l : Nat} {es : List (Key × Val)} {p : Addr × Addr} (hH : H[l]? = some (.dict es)) (hρ : ρ[l]? = some p) :
    ∃ xs, p.2 = p.1 ∧ s.heap.DictOfH (cellKind cx) p.1 xs ∧ DRs cx ρ s.heap es xs ∧ es.length ≤ sizeLine := by
  have := R.objs l _ p hH hρ
  generalize ho : HObj.dict es = o at this
  cases this with
  | list e r z => cases ho
  | dict d r z => cases ho; exact ⟨_, rfl, d, r, z⟩
  | inst _ _ _ _ _ _ _ _ _ => cases ho
  | hid _ => cases ho
theorem DRs.atKey {es : List (Key × Val)} {xs : List (List Int × Addr × Value)} (r : DRs cx ρ s.heap es xs) (k : Key) :
    match dget es k, atKey xs [k.1, k.2] with
    | some m, some p => VR cx ρ s.heap m p.2
    | none, none => True
    | _, _ => False := by
  induction r with
  | nil => simp [dget, PySem.atKey]
  | @cons k' v' b x es xs a n _ ih =>
    by_cases q : k' = k
    · subst q
      simp [dget, PySem.atKey, a]
    · have q' : ¬ ([k'.1, k'.2] = [k.1, k.2]) := fun e => q (by
        simp only [List.cons.injEq, and_true] at e
        exact Prod.ext e.1 e.2)
      have q2 : (k == k') = false := by simpa using fun e : k = k' => q e.symm
      have e1 : dget ((k', v') :: es) k = dget es k := by simp [dget, List.lookup_cons, q2]
      have e2 : PySem.atKey (([k'.1, k'.2], b, x) :: xs) [k.1, k.2] = PySem.atKey xs [k.1, k.2] := by
        unfold PySem.atKey
        rw [List.find?_cons]
        simp only [decide_eq_false q']
      rw [e1, e2]
      exact ih
theorem DRs.isSome {es : List (Key × Val)} {xs : List (List Int × Addr × Value)} (r : DRs cx ρ s.heap es xs) (k : Key) : (PySem.atKey xs [k.1, k.2]).isSome = (dget es k).isSome := by
  have := r.atKey k
  cases h1 : dget es k <;> cases h2 : PySem.atKey xs [k.1, k.2] <;> simp_all
theorem int2 {p : Int → Int → Bool} {r : Bool} (e : (match a, b with | .int x, .int y => some (p x y) | _, _ => none) = some r) : ∃ x y, a = .int x ∧ b = .int y ∧ r = p x y := by
  split at e
  · cases e; exact ⟨_, _, rfl, rfl, rfl⟩
  · cases e
theorem int_le {r : Bool} (e : cmpV .le a b H = some r) : ∃ x y, a = .int x ∧ b = .int y ∧ r = decide (x ≤ y) := int2 e
theorem int_gt {r : Bool} (e : cmpV .gt a b H = some r) : ∃ x y, a = .int x ∧ b = .int y ∧ r = decide (x > y) := int2 e
theorem int_ge {r : Bool} (e : cmpV .ge a b H = some r) : ∃ x y, a = .int x ∧ b = .int y ∧ r = decide (x ≥ y) := int2 e
theorem wp_lt (x1 : VR cx ρ s.heap a v) (x2 : VR cx ρ s.heap b w) {r : Bool} (e : cmpV .lt a b H = some r) {Q : Value → Shared → Prop} {E : Value → Shared → Prop} (k : Q (.bool r) s) :
    wpAny (model cx.prog cx.w) A (compareOp .Lt v w) Q E s := by
  obtain ⟨x, y, rfl, rfl, rfl⟩ := int2 (p := fun x y => decide (x < y)) e
  cases x1 with | int _ t1 => cases x2 with | int _ t2 => exact PyProof.Rows.lt_int k
theorem sim_cmp (hu : A.units + 100 < cLine) {op : COp} (h1 : ∀ ρ h, P.P ρ h → VR cx ρ h a v) (h2 : ∀ ρ h, P.P ρ h → VR cx ρ h b w) :
    Sim cx A P (compareOp (cmOp op) v w) ((M.look (cmpV op a b)).bnd fun r => M.ret (Val.bool r)) (Amb.vr cx) := by
  intro H ρ s R p
  have x1 := h1 _ _ p
  have x2 := h2 _ _ p
  show SimAt cx A (M.bnd (M.look (cmpV op a b)) _ H) _ _ ρ s
  cases e : cmpV op a b H with
  | none => rw [bnd_bad (show M.look (cmpV op a b) H = .bad by unfold M.look; rw [e])]; trivial
  | some r =>
    rw [bnd_ok (show M.look (cmpV op a b) H = .ok r H by unfold M.look; rw [e])]
    refine simAt_pure R fun Q E k => ?_
    have k' : ∀ tk, Q (.bool r) { s with toks := tk } := fun tk => k _ tk (.bool r)
    cases op with
    | eq => exact wp_eq R x1 x2 e hu (k' s.toks)
    | ne =>
      obtain ⟨r', e', rfl⟩ := flip_some e
      exact wp_ne R x1 x2 e' hu (k' s.toks)
    | lt => exact wp_lt x1 x2 e (k' s.toks)
    | le =>
      obtain ⟨x, y, rfl, rfl, rfl⟩ := int_le e
      cases x1 with | int _ t1 => cases x2 with | int _ t2 => exact PyProof.Rows.le_int (k' s.toks)
    | gt =>
      obtain ⟨x, y, rfl, rfl, rfl⟩ := int_gt e
      cases x1 with | int _ t1 => cases x2 with | int _ t2 => exact PyProof.Rows.gt_int (k' s.toks)
    | ge =>
      obtain ⟨x, y, rfl, rfl, rfl⟩ := int_ge e
      cases x1 with | int _ t1 => cases x2 with | int _ t2 => exact PyProof.Rows.ge_int (k' s.toks)
    | is =>
      have e' : isV a b = some r := e
      cases x2 with
      | none => rw [isV_none_val x1 e'] at k'; exact is_none (k' s.toks)
      | bool y =>
        obtain ⟨q1, q2⟩ := isV_bool_val x1 e'
        rw [q2] at k'
        exact wpAny_is_plain q1 (k' s.toks)
      | _ => simp [isV] at e'
    | isNot =>
      obtain ⟨r', e', rfl⟩ := flip_some (show flip true (isV a b) = some r from e)
      cases x2 with
      | none => rw [isV_none_val x1 e'] at k'; exact isNot_none (k' s.toks)
      | bool y =>
        obtain ⟨q1, q2⟩ := isV_bool_val x1 e'
        rw [q2] at k'
        exact wpAny_isNot_plain q1 (k' s.toks)
      | _ => simp [isV] at e'
end
end Mine

-- part MSub
namespace Mine
open PySem PyProof.Rows

theorem subscripted_any (slice : Expr) (o i : Value) : ∃ ops, subscripted slice false o i = operate ops (getItem o i) := by
  unfold subscripted
  split
  · exact ⟨_, rfl⟩
  · exact absurd (by assumption) Bool.false_ne_true
  · exact ⟨_, rfl⟩

section
variable {cx : Cx} {A : Around} {P : Amb} {a b : Val} {v w : Value} {H : Hp} {ρ : Rho} {s : Shared}

theorem wp_listItem {l : Addr} {vs : List Value} {n : Nat} {k : Int} {u : Tok} {p : Nat} {x : Value} {Q : Value → Shared → Prop} {E : Value → Shared → Prop} (g : s.heap.get? l = some (listO vs n)) (z : vs.length ≤ sizeLine) (hp : placeOf k vs.length = some p) (hx : vs[p]? = some x) (h : Q x s) :
    wpAny (model cx.prog cx.w) A (getItem (.ref l) (.int k u)) Q E s := by
  have L : s.heap.IsList l vs.toArray := ⟨_, g, rfl, n, rfl⟩
  rw [sizeLine_eq] at z
  unfold placeOf at hp
  split at hp
  · split at hp
    · cases hp
      rename_i h0 h1
      exact wpAny_getItem_list L h0 (by omega) (by simpa using hx) h
    · cases hp
  · split at hp
    · cases hp
      rename_i h0 h1
      exact wpAny_getItem_list_neg L (by omega) (by simpa using h1) (by omega) (by simpa using hx) h
    · cases hp

theorem sim_subTail {value slice : Expr} (hu : A.units + 100 < cLine) (h1 : ∀ ρ h, P.P ρ h → VR cx ρ h a v) (h2 : ∀ ρ h, P.P ρ h → VR cx ρ h b w) : Sim cx A P (subscriptTail value slice v w) (subV a b) (Amb.vr cx) := by
  obtain ⟨ops, hops⟩ := subscripted_any slice v w
  refine Sim.look fun H ρ s r R p e Q E k => ?_
  have x1 := h1 _ _ p
  have x2 := h2 _ _ p
  cases x1 with
  | @loc l q hq =>
    simp only at e
    split at e
    · rename_i xs i hl
      obtain ⟨vs, n, _, g, rr, z⟩ := R.listAt hl hq
      cases x2 with
      | int i u =>
        simp only [Option.bind_eq_some_iff] at e
        obtain ⟨pl, e1, e2⟩ := e
        obtain ⟨x, ex, vx⟩ := rr.get e2
        have z' : vs.length ≤ sizeLine := by rw [← rr.length]; exact z
        exact tail_any (T := "list") (Heap.IsList.typeIs (s := s) ⟨_, g, rfl, n, rfl⟩) PySem.slot_list_getitem.lookup (wp_listItem g z' (by rw [← rr.length]; exact e1) ex (k _ s.toks vx)) hops
    · cases e
  | @tup t vs n ms g no z rr =>
    cases x2 with
    | int i u =>
      simp only at e
      split at e
      · rename_i h0
        obtain ⟨x, ex, vx⟩ := rr.get e
        have lt := (List.getElem?_eq_some_iff.mp ex).1
        have z' : vs.length ≤ sizeLine := by rw [← rr.length]; exact z
        rw [sizeLine_eq] at z'
        refine tail_any (T := "tuple") (Heap.IsTuple.typeIs (s := s) ⟨_, g, rfl, n, rfl⟩) slot_tuple_getitem.lookup ?_ hops
        exact getItem_tuple (items := vs.toArray) ⟨_, g, rfl, n, rfl⟩ (by omega) (by omega) (seqIndex_of h0 (by simp only [List.size_toArray]; omega)) (by simpa using ex) (k _ s.toks vx)
      · cases e
    | _ => cases e
  | @script t vs n ns g z rr =>
    cases x2 with
    | int i u =>
      simp only [Option.bind_eq_some_iff, Option.map_eq_some_iff] at e
      obtain ⟨pl, e1, ii, e2, rfl⟩ := e
      obtain ⟨x, ex, vx⟩ := rr.get (k := pl) (m := .int ii) (by rw [List.getElem?_map, e2]; rfl)
      have len : ns.length = vs.length := by rw [← rr.length, List.length_map]
      exact tail_any (T := "list") (Heap.IsList.typeIs (s := s) ⟨_, R.base _ _ g, rfl, n, rfl⟩) PySem.slot_list_getitem.lookup (wp_listItem (R.base _ _ g) (by rw [← len]; exact z) (by rw [← len]; exact e1) ex (k _ s.toks vx)) hops
    | _ => cases e
  | _ => cases e
end
end Mine

-- part MBf
namespace Mine
open PySem

section
variable {cx : Cx} {A : Around} {P : Amb} {a b : Val} {v w : Value} {H : Hp} {ρ : Rho} {s : Shared}

/- the kind of a value, as the model sees it -/
noncomputable def KdIs (s : Shared) (v : Value) : Kd → Prop
  | .none => v = .none
  | .bool => ∃ b, v = .bool b
  | .int => ∃ i t, v = .int i t
  | .str => ∃ y t, v = .str y t
  | .tuple => ∃ p o, v = .ref p ∧ s.heap.get? p = some o ∧ o.cls = .type "tuple"
  | .list => ∃ p o, v = .ref p ∧ s.heap.get? p = some o ∧ o.cls = .type "list"
  | .dict => ∃ p o, v = .ref p ∧ s.heap.get? p = some o ∧ o.cls = .type "dict"
theorem kd_is (R : Rel cx H ρ s) (x : VR cx ρ s.heap a v) {k : Kd} (e : kdOf H a = some k) : KdIs s v k := by
  cases x with
  | none => cases e; rfl
  | bool b => cases e; exact ⟨_, rfl⟩
  | int i t => cases e; exact ⟨_, _, rfl⟩
  | str y t z => cases e; exact ⟨_, _, rfl⟩
  | tup g _ _ _ => cases e; exact ⟨_, _, rfl, g, rfl⟩
  | script g _ _ => cases e; exact ⟨_, _, rfl, R.base _ _ g, rfl⟩
  | @loc l p hp =>
    simp only [kdOf] at e
    split at e
    · rename_i xs hl
      cases e
      obtain ⟨vs, n, _, g, _⟩ := R.listAt hl hp
      exact ⟨_, _, rfl, g, rfl⟩
    · rename_i es hl
      cases e
      obtain ⟨xs, _, D, _⟩ := R.dictAt hl hp
      obtain ⟨o, _, _, g, ex, _⟩ := D
      exact ⟨_, _, rfl, g, ex.1⟩
    · cases e
  | rng => cases e
  | exc => cases e

noncomputable def tyVal : Ty → Value
  | .int => .type "int"
  | .bool => .type "bool"
  | .str => .type "str"
  | .tuple => .type "tuple"
  | .list => .type "list"
  | .cls _ => .none
theorem wp_isi (R : Rel cx H ρ s) (x : VR cx ρ s.heap a v) {k : Kd} (e : kdOf H a = some k) {t : Ty} (ht : ∀ c, t ≠ .cls c) {Q : Value → Shared → Prop} {E : Value → Shared → Prop} (q : ∀ tk, Q (.bool (isKd t k)) { s with toks := tk }) :
    wpAny (model cx.prog cx.w) A (call (.builtin "isinstance") [v, tyVal t]) Q E s := by
  have d := kd_is R x e
  cases k <;> cases t
  case none.cls | bool.cls | int.cls | str.cls | tuple.cls | list.cls | dict.cls => exact absurd rfl (ht _)
  all_goals dsimp only [KdIs] at d
  case none.int => subst d; exact IsiPair.NoneType_int (q _)
  case none.bool => subst d; exact IsiPair.NoneType_bool (q _)
  case none.str => subst d; exact IsiPair.NoneType_str (q _)
  case none.tuple => subst d; exact IsiPair.NoneType_tuple (q _)
  case none.list => subst d; exact IsiPair.NoneType_list (q _)
  case bool.int => obtain ⟨b, rfl⟩ := d; exact IsiPair.bool_int (q _)
  case bool.bool => obtain ⟨b, rfl⟩ := d; exact IsiPair.bool_bool (q _)
  case bool.str => obtain ⟨b, rfl⟩ := d; exact IsiPair.bool_str (q _)
  case bool.tuple => obtain ⟨b, rfl⟩ := d; exact IsiPair.bool_tuple (q _)
  case bool.list => obtain ⟨b, rfl⟩ := d; exact IsiPair.bool_list (q _)
  case int.int => obtain ⟨i, u, rfl⟩ := d; exact IsiPair.int_int (q _)
  case int.bool => obtain ⟨i, u, rfl⟩ := d; exact IsiPair.int_bool (q _)
  case int.str => obtain ⟨i, u, rfl⟩ := d; exact IsiPair.int_str (q _)
  case int.tuple => obtain ⟨i, u, rfl⟩ := d; exact IsiPair.int_tuple (q _)
  case int.list => obtain ⟨i, u, rfl⟩ := d; exact IsiPair.int_list (q _)
  case str.int => obtain ⟨i, u, rfl⟩ := d; exact IsiPair.str_int (q _)
  case str.bool => obtain ⟨i, u, rfl⟩ := d; exact IsiPair.str_bool (q _)
  case str.str => obtain ⟨i, u, rfl⟩ := d; exact IsiPair.str_str (q _)
  case str.tuple => obtain ⟨i, u, rfl⟩ := d; exact IsiPair.str_tuple (q _)
  case str.list => obtain ⟨i, u, rfl⟩ := d; exact IsiPair.str_list (q _)
  case tuple.int => obtain ⟨p, o, rfl, g, c⟩ := d; exact IsiPair.tuple_int g c (q _)
  case tuple.bool => obtain ⟨p, o, rfl, g, c⟩ := d; exact IsiPair.tuple_bool g c (q _)
  case tuple.str => obtain ⟨p, o, rfl, g, c⟩ := d; exact IsiPair.tuple_str g c (q _)
  case tuple.tuple => obtain ⟨p, o, rfl, g, c⟩ := d; exact IsiPair.tuple_tuple g c (q _)
  case tuple.list => obtain ⟨p, o, rfl, g, c⟩ := d; exact IsiPair.tuple_list g c (q _)
  case list.int => obtain ⟨p, o, rfl, g, c⟩ := d; exact IsiPair.list_int g c (q _)
  case list.bool => obtain ⟨p, o, rfl, g, c⟩ := d; exact IsiPair.list_bool g c (q _)
  case list.str => obtain ⟨p, o, rfl, g, c⟩ := d; exact IsiPair.list_str g c (q _)
  case list.tuple => obtain ⟨p, o, rfl, g, c⟩ := d; exact IsiPair.list_tuple g c (q _)
  case list.list => obtain ⟨p, o, rfl, g, c⟩ := d; exact IsiPair.list_list g c (q _)
  case dict.int => obtain ⟨p, o, rfl, g, c⟩ := d; exact IsiPair.dict_int g c (q _)
  case dict.bool => obtain ⟨p, o, rfl, g, c⟩ := d; exact IsiPair.dict_bool g c (q _)
  case dict.str => obtain ⟨p, o, rfl, g, c⟩ := d; exact IsiPair.dict_str g c (q _)
  case dict.tuple => obtain ⟨p, o, rfl, g, c⟩ := d; exact IsiPair.dict_tuple g c (q _)
  case dict.list => obtain ⟨p, o, rfl, g, c⟩ := d; exact IsiPair.dict_list g c (q _)

/- what a built-in function's name leads to -/
noncomputable def bfVal : BF → Value
  | .len => .builtin "len"
  | .range => .type "range"
  | .int => .type "int"
  | .sortedSet => .none

theorem items_at (R : Rel cx H ρ s) (x : VR cx ρ s.heap a v) {xs : List Val} (e : itemsOf a H = some xs) :
    (∃ p vs n, v = .ref p ∧ s.heap.get? p = some (listO vs n) ∧ VRs cx ρ s.heap xs vs ∧ xs.length ≤ sizeLine) ∨ (∃ p vs n, v = .ref p ∧ s.heap.get? p = some (tupO vs n) ∧ VRs cx ρ s.heap xs vs ∧ xs.length ≤ sizeLine) := by
  cases x with
  | @tup p vs n ms g no z r => cases e; exact .inr ⟨_, _, _, rfl, g, r, z⟩
  | @script p vs n ns g z r => cases e; exact .inl ⟨_, _, _, rfl, R.base _ _ g, r, by rw [List.length_map]; exact z⟩
  | @loc l p hp =>
    simp only [itemsOf] at e
    split at e
    · rename_i ys hl
      cases e
      obtain ⟨vs, n, _, g, r, z⟩ := R.listAt hl hp
      exact .inl ⟨_, _, _, rfl, g, r, z⟩
    · cases e
  | _ => cases e

theorem sim_len (h1 : ∀ ρ h, P.P ρ h → VR cx ρ h a v) : Sim cx A P (call (.builtin "len") [v]) (bfV .len [a]) (Amb.vr cx) := by
  refine Sim.look fun H ρ s r R p e Q E k => ?_
  have x := h1 _ _ p
  have gen : ∀ xs, itemsOf a H = some xs → r = .int xs.length → wpAny (model cx.prog cx.w) A (call (.builtin "len") [v]) Q E s := by
    intro xs e' hr
    subst hr
    rcases items_at R x e' with ⟨p, vs, n, rfl, g, rr, z⟩ | ⟨p, vs, n, rfl, g, rr, z⟩
    · rw [sizeLine_eq] at z
      rw [rr.length] at z k
      refine PyProof.Rows.len_list (items := vs.toArray) ⟨_, g, rfl, n, rfl⟩ (by simp only [List.size_toArray]; omega) ?_
      simp only [List.size_toArray]
      exact k _ _ (.int _ _)
    · rw [sizeLine_eq] at z
      rw [rr.length] at z k
      refine PyProof.Rows.len_tuple (items := vs.toArray) ⟨_, g, rfl, n, rfl⟩ (by simp only [List.size_toArray]; omega) ?_
      simp only [List.size_toArray]
      exact k _ _ (.int _ _)
  cases x with
  | str y t z =>
    simp only [Option.some.injEq] at e
    subst e
    rw [sizeLine_eq] at z
    exact PyProof.Rows.len_str (by omega) (k _ _ (.int _ _))
  | _ =>
    simp only [Option.map_eq_some_iff] at e
    obtain ⟨xs, e1, rfl⟩ := e
    exact gen xs e1 rfl

theorem sim_range (h1 : ∀ ρ h, P.P ρ h → VR cx ρ h a v) : Sim cx A P (call (.type "range") [v]) (bfV .range [a]) (Amb.vr cx) := by
  intro H ρ s R p
  have x := h1 _ _ p
  cases x with
  | int i t =>
    show SimAt cx A ((if -1073741824 ≤ i ∧ i ≤ 1073741824 then M.ret (Val.rng i) else M.bad) H) _ _ ρ s
    by_cases q : -1073741824 ≤ i ∧ i ≤ 1073741824
    · rw [if_pos q]
      have F := Full.push ρ s.heap { cls := .type "range", data := .fields #[.int 0 s.toks, .int i t, .int 1 (s.toks + 1)] }
      exact call_range_1 ⟨ρ, F, R.push _ _, .rng (IsRange.new _ _ _ _ _ _ _) (R.fresh_not (fresh_none _)) (by omega) (by omega)⟩
    · rw [if_neg q]; trivial
  | _ => trivial
theorem sim_intB (h1 : ∀ ρ h, P.P ρ h → VR cx ρ h a v) : Sim cx A P (call (.type "int") [v]) (bfV .int [a]) (Amb.vr cx) := by
  intro H ρ s R p
  have x := h1 _ _ p
  cases x with
  | bool b => exact simAt_pure R fun Q E k => call_int_bool (k _ _ (.int _ _))
  | _ => trivial
/- a new list at a heap that keeps all -/
end
end Mine

-- part MBm
namespace Mine
open PySem

theorem attributeBase_of {o : Expr} (h : notSuper o = true) (n : Str) (env : Env) (t : Sem Value) : attributeBase o n env t = t := by
  unfold attributeBase
  split
  · rename_i id _ pos
    have : (id != ("super" : Str)) = true := by simpa [notSuper] using h
    rw [if_pos (by simp only [this, Bool.true_or])]
  · rfl

section
variable {cx : Cx} {A : Around} {P : Amb} {env : Env} {H : Hp} {ρ : Rho} {s : Shared}

/- no star among the arguments -/
noncomputable def plainArgs (env : Env) : List Expr → Prop
  | [] => True
  | e :: es => starEach (e :: es) env = (false, eval e env) :: starEach es env ∧ plainArgs env es
theorem plainArgs_trees {env : Env} : ∀ {xs : List Expr} (pos : Pos), plainArgs env xs → backTo pos (starEach xs env) = xs.map fun e => (false, eval e env)
  | [], pos, _ => by simp [starEach, backTo]
  | e :: es, pos, h => by
    rw [h.1]
    have := plainArgs_trees pos h.2
    unfold backTo at this ⊢
    rw [List.map_cons, this]
    simp
theorem plainArgs_few {env : Env} {xs : List Expr} {pos : Pos} (h : plainArgs env xs) (z : xs.length ≤ 20) :
    ((backTo pos (starEach xs env)).all (fun x => !x.1) && (backToKw pos (keywordEach [] env)).all (fun x => x.1.isSome) && decide (xs.length + ([] : List Keyword).length + (if ([] : List Keyword).isEmpty then 0 else 1) < 30)) = true := by
  rw [plainArgs_trees pos h]
  simp only [Bool.and_eq_true, List.all_eq_true, List.mem_map, forall_exists_index, and_imp, decide_eq_true_eq]
  refine ⟨⟨fun x e _ hx => by rw [← hx]; rfl, ?_⟩, ?_⟩
  · intro x hx; simp [backToKw, keywordEach] at hx
  · simp; omega

/- a method of a list, dict or str is looked up -/
theorem simK_method {T id : String} {o : Expr} {name : Str} {apos pos : Pos} {args : List Expr} {m : M Val} {g : Val → M Val} (hs : notSuper o = true) (hp : plainArgs env args) (hz : args.length ≤ 20) (hline : (apos.endLine == pos.line) = true)
    (pa : PlainAttrs T) (slot : Slot T name id) (hty : typeOf (.builtin id) = pure (.type "method_descriptor"))
    (x : SimAt cx A (m H) (eval o env) (Amb.vr cx) ρ s)
    (y : ∀ b a H' ρ' s', m H = .ok b H' → Full ρ s.heap ρ' s'.heap → Rel cx H' ρ' s' → VR cx ρ' s'.heap b a →
      SimK cx (g b H') (fun Q E s₁ => s₁.TypeIs a T ∧ (∀ p, a = .ref p → ∃ ob, s₁.heap.get? p = some ob ∧ ob.dict = none) ∧ wpAny (model cx.prog cx.w) A (callWith pos (.builtin id) [a] (args.map fun e => (false, eval e env)) []) Q E s₁) (Amb.vr cx) ρ' s') :
    SimAt cx A (m.bnd g H) (eval (.Call (.Attribute o name apos) args [] pos) env) (Amb.vr cx) ρ s :=
  SimAt.bindK (K' := fun Q E s => wpAny (model cx.prog cx.w) A (eval (.Call (.Attribute o name apos) args [] pos) env) Q E s) x y
    (fun a Q E Q' E' s ⟨h1, h2, h3⟩ k1 k2 => ⟨h1, h2, wpAny_mono h3 k1 k2⟩)
    (fun Q E h => wpAny_Call_method (attributeBase_of hs _ _ _) (plainArgs_few hp hz) hline pa slot hty (by rw [plainArgs_trees pos hp]; exact h))

theorem SimK.andK {β α : Type} {r : Res β} {p : Prop} (hp : p) {K : (α → Shared → Prop) → (Value → Shared → Prop) → Shared → Prop} {V : β → α → Amb} (x : SimK cx r K V ρ s) : SimK cx r (fun Q E s' => p ∧ K Q E s') V ρ s := x.mono fun _ _ h => ⟨hp, h⟩

theorem list_head (R : Rel cx H ρ s) {l : Nat} {p : Addr × Addr} {xs : List Val} (hl : H[l]? = some (.list xs)) (hp : ρ[l]? = some p) : s.TypeIs (.ref p.1) "list" ∧ ∀ q, Value.ref p.1 = .ref q → ∃ ob, s.heap.get? q = some ob ∧ ob.dict = none := by
  obtain ⟨vs, n, _, g, _⟩ := R.listAt hl hp
  exact ⟨⟨_, g, rfl⟩, fun q e => by cases e; exact ⟨_, g, rfl⟩⟩

theorem mapSeq_list (vs : List Value) (n : Nat) (f : Array Value → Array Value) : ∃ n', Obj.mapSeq f (listO vs n) = listO (f vs.toArray).toList n' := by
  unfold listO Obj.mapSeq
  exact ⟨_, rfl⟩

/- a list is exchanged by an update -/
theorem simAt_seq {l : Nat} {p : Addr × Addr} {b : Val} {v : Value} {ys : List Val} {vs : List Value} {n : Nat} (R : Rel cx H ρ s) (hl : ρ[l]? = some p) (hpp : p.2 = p.1) (g : s.heap.get? p.1 = some (listO vs n)) (f : Array Value → Array Value)
    (r : VRs cx ρ s.heap ys (f vs.toArray).toList) (z : ys.length ≤ sizeLine) (hv : ∀ h, Full ρ s.heap ρ h → VR cx ρ h b v) :
    ∃ ρ', Full ρ s.heap ρ' (s.heap.update p.1 (Obj.mapSeq f)) ∧ Rel cx (H.set l (.list ys)) ρ' { s with heap := s.heap.update p.1 (Obj.mapSeq f) } ∧ (Amb.vr cx b v).P ρ' (s.heap.update p.1 (Obj.mapSeq f)) := by
  obtain ⟨n', e⟩ := mapSeq_list vs n f
  have g' : (s.heap.update p.1 (Obj.mapSeq f)).get? p.1 = some (listO (f vs.toArray).toList n') := by
    rw [Heap.get?_update_self _ g (by rw [e]; rfl), e]
  have hs : Heap.SameBut p.1 s.heap (s.heap.update p.1 (Obj.mapSeq f)) := Heap.SameBut.update ..
  have own : Owned ρ p.1 := ⟨p, List.mem_of_getElem? hl, .inl rfl⟩
  have F := Full.own own g' hs
  obtain ⟨F', R'⟩ := R.set (tk := s.toks) (o := .list ys) hl (fun b ob eb n1 _ => by rw [hs.2 b n1]; exact eb) (SameBut.live hs g') (by
    obtain ⟨p1, p2⟩ := p
    dsimp only at hpp
    subst hpp
    exact .list g' (r.step F.step) z)
  exact ⟨ρ, F', R', hv _ F'⟩

theorem size_le_of {vs : List Value} {xs : List Val} (r : VRs cx ρ s.heap xs vs) (z : xs.length ≤ sizeLine) : vs.toArray.size ≤ sizeLine := by simp only [List.size_toArray]; rw [← r.length]; exact z


/- the arguments, then the rest -/
theorem simK_args {Φ : Funs} {Γ : Env'} {es : MEs} {xs : List Expr} {f : Value} {γ δ : Type} {g : List Val → M δ} {W : δ → γ → Amb} {K : List Value → (γ → Shared → Prop) → (Value → Shared → Prop) → Shared → Prop}
    (hn : xs = [] → es = .nil) (R : Rel cx H ρ s) (x : SimAt cx A (evalEs cx.T Φ es Γ H) (spliced (xs.map fun e => (false, eval e env))) (Amb.vrs cx) ρ s)
    (y : ∀ ms vs H' ρ' s', evalEs cx.T Φ es Γ H = .ok ms H' → Full ρ s.heap ρ' s'.heap → Rel cx H' ρ' s' → VRs cx ρ' s'.heap ms vs → SimK cx (g ms H') (K vs) W ρ' s') (mk : ∀ vs, MonoK (K vs)) :
    SimK cx ((evalEs cx.T Φ es Γ).bnd g H) (fun Q E s => wpAny (model cx.prog cx.w) A (evalArgs f true (xs.map fun e => (false, eval e env)) []) (fun a s₁ => a.kw = [] ∧ K a.pos Q E s₁) E s) W ρ s := by
  cases xs with
  | nil =>
    obtain rfl := hn rfl
    have e : evalEs cx.T Φ .nil Γ H = .ok [] H := by rw [evalEs]; rfl
    rw [bnd_ok e]
    refine (y [] [] H ρ s e (Full.refl _ _) R .nil).mono fun Q E h => ?_
    exact evalArgs_none ⟨rfl, h⟩
  | cons e0 es0 =>
    refine SimAt.bindK (K := K) x y mk fun Q E h => ?_
    exact Calls.evalArgs_plain (wpAny_mono h (fun vs s' h' => ⟨rfl, h'⟩) fun _ _ q => q)
theorem any_false (args : List Expr) : (args.map fun e => (false, eval e env)).any (·.1) = false := by
  induction args with
  | nil => rfl
  | cons e es ih => rw [List.map_cons, List.any_cons, ih]; rfl
theorem monoK_wp {α : Type} (t : Sem α) : MonoK fun Q E s => wpAny (model cx.prog cx.w) A t Q E s := fun _ _ _ _ _ h k1 k2 => wpAny_mono h k1 k2

/- a built-in function or method, called -/
theorem simK_callB {Φ : Funs} {Γ : Env'} {es : MEs} {xs : List Expr} {pos : Pos} {id : String} {first : List Value} {g : List Val → M Val} (hn : xs = [] → es = .nil) (R : Rel cx H ρ s)
    (x : SimAt cx A (evalEs cx.T Φ es Γ H) (spliced (xs.map fun e => (false, eval e env))) (Amb.vrs cx) ρ s)
    (y : ∀ ms vs H' ρ' s', evalEs cx.T Φ es Γ H = .ok ms H' → Full ρ s.heap ρ' s'.heap → Rel cx H' ρ' s' → VRs cx ρ' s'.heap ms vs → SimAt cx A (g ms H') (call (.builtin id) (first ++ vs)) (Amb.vr cx) ρ' s') :
    SimAt cx A ((evalEs cx.T Φ es Γ).bnd g H) (callWith pos (.builtin id) first (xs.map fun e => (false, eval e env)) []) (Amb.vr cx) ρ s :=
  (simK_args (f := .builtin id) (K := fun vs Q E s => wpAny (model cx.prog cx.w) A (call (.builtin id) (first ++ vs)) Q E s) hn R x y (fun _ => monoK_wp _)).mono fun Q E h =>
    Calls.callWith_builtin (any_false _) (wpAny_mono h (fun a s₁ h₁ => by rw [h₁.1]; exact h₁.2) fun _ _ q => q)

/-! ## the methods -/
/- where a method is found -/
noncomputable def bmAt : BM → String × String
  | .append => ("list", "list.append")
  | .clear => ("list", "list.clear")
theorem bm_plain (m : BM) : PlainAttrs (bmAt m).1 := by
  cases m <;> first | exact F.plainAttrs_list | exact F.plainAttrs_dict | exact F.plainAttrs_str
theorem bm_slot (m : BM) : Slot (bmAt m).1 (bmName m).1 (bmAt m).2 := by
  cases m
  · exact F.slot_list_append
  · exact F.slot_list_clear
set_option maxRecDepth 100000 in
theorem bm_desc (m : BM) : typeOf (.builtin (bmAt m).2) = pure (.type "method_descriptor") := by
  cases m <;> kernel_rfl
theorem bm_fits {m : BM} {b : Val} {v : Value} (R : Rel cx H ρ s) (x : VR cx ρ s.heap b v) (h : bmFits m b H = some ()) : s.TypeIs v (bmAt m).1 ∧ ∀ q, v = .ref q → ∃ ob, s.heap.get? q = some ob ∧ ob.dict = none := by
  cases x with
  | str y t z =>
    cases m <;> simp [bmFits] at h <;> exact ⟨typeIs_str _ _ _, fun q e => nomatch e⟩
  | @loc l p hp =>
    simp only [bmFits] at h
    split at h
    · rename_i xs hl
      have := list_head R hl hp
      cases m <;> simp at h <;> exact this
    · rename_i es hl
      obtain ⟨xs, _, D, _⟩ := R.dictAt hl hp
      obtain ⟨o, _, _, g, ex, _⟩ := D
      have : s.TypeIs (.ref p.1) "dict" ∧ ∀ q, Value.ref p.1 = .ref q → ∃ ob, s.heap.get? q = some ob ∧ ob.dict = none := ⟨⟨_, g, ex.1⟩, fun q e => by cases e; exact ⟨_, g, ex.2.1⟩⟩
      cases m <;> simp at h <;> exact this
    · cases h
  | _ => cases m <;> cases h

theorem sim_bm {Φ : Funs} {Γ : Env'} {a : ME} {m : BM} {es : MEs} {o : Expr} {xs : List Expr} {apos pos : Pos} (hs : notSuper o = true) (hp : plainArgs env xs) (hz : xs.length ≤ 20) (hn : xs = [] → es = .nil) (hline : (apos.endLine == pos.line) = true)
    (x : Sim cx A P (eval o env) (evalE cx.T Φ a Γ) (Amb.vr cx)) (y : Sim cx A P (spliced (xs.map fun e => (false, eval e env))) (evalEs cx.T Φ es Γ) (Amb.vrs cx))
    (k : ∀ b v ms vs, ms.length = xs.length → Sim cx A ((Amb.vr cx b v).and (Amb.vrs cx ms vs)) (call (.builtin (bmAt m).2) (v :: vs)) (bmV m b ms) (Amb.vr cx)) (hlen : ∀ H ms H', evalEs cx.T Φ es Γ H = .ok ms H' → ms.length = xs.length) :
    Sim cx A P (eval (.Call (.Attribute o (bmName m).1 apos) xs [] pos) env) (evalE cx.T Φ (.bm a m es) Γ) (Amb.vr cx) := by
  intro H ρ s R p
  rw [evalE]
  refine simK_method (T := (bmAt m).1) (id := (bmAt m).2) hs hp hz hline (bm_plain m) (bm_slot m) (bm_desc m) (x H ρ s R p) fun b v H1 ρ1 s1 _ F1 R1 vr => ?_
  refine SimK.lookK fun _ fit => ?_
  obtain ⟨t1, t2⟩ := bm_fits R1 vr fit
  refine SimK.mono (K := fun Q E s => wpAny (model cx.prog cx.w) A (callWith pos (.builtin (bmAt m).2) [v] (xs.map fun e => (false, eval e env)) []) Q E s) ?_ fun Q E h => ⟨t1, t2, h⟩
  refine simK_callB hn R1 (y H1 ρ1 s1 R1 (P.st _ _ _ _ p F1)) fun ms vs H2 ρ2 s2 e2 F2 R2 vrs => ?_
  exact k b v ms vs (hlen _ _ _ e2) H2 ρ2 s2 R2 ⟨vr.step F2.step, vrs⟩
end
end Mine

-- part MLm
namespace Mine
open PySem

section
variable {cx : Cx} {A : Around} {H : Hp} {ρ : Rho} {s : Shared}

theorem bm_append (b : Val) (v : Value) (ms : List Val) (vs : List Value) (hl : ms.length = 1) : Sim cx A ((Amb.vr cx b v).and (Amb.vrs cx ms vs)) (call (.builtin "list.append") (v :: vs)) (bmV .append b ms) (Amb.vr cx) := by
  intro H ρ s R ⟨x, y⟩
  match ms, hl, y with
  | [m], _, .cons (v := u) y0 .nil =>
    cases x with
    | @loc l p hp =>
      show SimAt cx A (match H[l]? with
        | some (.list xs) => if xs.length < lid then Res.ok Val.none (H.set l (.list (xs ++ [m]))) else .bad
        | some (.dict es) => .bad
        | _ => .bad) _ _ ρ s
      split
      · rename_i xs e
        obtain ⟨ws, n, hpp, g, r, z⟩ := R.listAt e hp
        by_cases q : xs.length < lid
        · rw [if_pos q]
          rw [sizeLine_lid] at q
          refine call_meets F.slot_list_append ⟨_, g, rfl⟩ F.entry_list_append (F.args_list_append_2 _ _) (list_append p.1 ws.toArray n u (size_le_of r z)) ⟨g, ?_⟩
          exact simAt_seq R hp hpp g (fun x => x.push u) (by simpa using r.append (.one y0)) (by rw [List.length_append]; exact q) fun _ _ => .none
        · rw [if_neg q]; trivial
      · trivial
      · trivial
    | _ => trivial
theorem bm_clear (b : Val) (v : Value) (ms : List Val) (vs : List Value) (hl : ms.length = 0) : Sim cx A ((Amb.vr cx b v).and (Amb.vrs cx ms vs)) (call (.builtin "list.clear") (v :: vs)) (bmV .clear b ms) (Amb.vr cx) := by
  intro H ρ s R ⟨x, y⟩
  match ms, hl, y with
  | [], _, .nil =>
    cases x with
    | @loc l p hp =>
      show SimAt cx A (match H[l]? with
        | some (.list xs) => Res.ok Val.none (H.set l (.list []))
        | some (.dict es) => .bad
        | _ => .bad) _ _ ρ s
      split
      · rename_i xs e
        obtain ⟨ws, n, hpp, g, r, z⟩ := R.listAt e hp
        refine call_meets F.slot_list_clear ⟨_, g, rfl⟩ F.entry_list_clear (F.args_list_clear_1 _) (AutoSeq1.list_clear_list_0 p.1 ws.toArray n (size_le_of r z)) ⟨g, ?_⟩
        exact simAt_seq R hp hpp g (fun _ => #[]) (by simpa using VRs.nil) (by simp) fun _ _ => .none
      · trivial
      · trivial
    | _ => trivial
end
end Mine

-- part MInv
namespace Mine
open PySem
section
variable {N : Names} {sc : Scope} {ns : List (Option Str)} {a b c : ME} {e : Expr} {es : MEs} {op op1 op2 : COp}
theorem opt_isSome {α : Type} {o : Option α} (h : o.isSome = true) : ∃ x, o = some x := Option.isSome_iff_exists.mp h
theorem inv_none (h : ck N sc ns .none e = true) : ∃ k pos, e = .Constant .none k pos := by
  rw [ck] at h
  cases q : dConst e with
  | none => rw [q] at h; cases h
  | some p =>
    obtain ⟨⟨c, k, pos⟩, z⟩ := p
    rw [q] at h
    dsimp only at z
    obtain ⟨⟨_, z2⟩, _⟩ := opt_isSome h
    exact ⟨k, pos, by rw [z, z2]⟩
theorem inv_bool {v : Bool} (h : ck N sc ns (.bool v) e = true) : ∃ k pos, e = .Constant (.bool v) k pos := by
  rw [ck] at h
  cases q : dConst e with
  | none => rw [q] at h; cases h
  | some p =>
    obtain ⟨⟨c, k, pos⟩, z⟩ := p
    rw [q] at h
    dsimp only at z
    dsimp only at h
    cases q2 : cBool c with
    | none => rw [q2] at h; cases h
    | some p =>
      obtain ⟨b, z2⟩ := p
      rw [q2] at h
      exact ⟨k, pos, by rw [z, z2, eq_of_beq h]⟩
theorem inv_int {v : Int} (h : ck N sc ns (.int v) e = true) : ∃ k pos, e = .Constant (.int v) k pos := by
  rw [ck] at h
  cases q : dConst e with
  | none => rw [q] at h; cases h
  | some p =>
    obtain ⟨⟨c, k, pos⟩, z⟩ := p
    rw [q] at h
    dsimp only at z
    dsimp only at h
    cases q2 : cInt c with
    | none => rw [q2] at h; cases h
    | some p =>
      obtain ⟨b, z2⟩ := p
      rw [q2] at h
      exact ⟨k, pos, by rw [z, z2, of_decide_eq_true h]⟩
theorem inv_str {v : Str} (h : ck N sc ns (.str v) e = true) : ∃ k pos, e = .Constant (.str v) k pos ∧ v.length ≤ 1000 := by
  rw [ck] at h
  cases q : dConst e with
  | none => rw [q] at h; cases h
  | some p =>
    obtain ⟨⟨c, k, pos⟩, z⟩ := p
    rw [q] at h
    dsimp only at z
    dsimp only at h
    cases q2 : cStr c with
    | none => rw [q2] at h; cases h
    | some p =>
      obtain ⟨b, z2⟩ := p
      rw [q2] at h
      simp only [Bool.and_eq_true, decide_eq_true_eq] at h
      exact ⟨k, pos, by rw [z, z2, h.1], h.2⟩
theorem inv_glob {k : Nat} (h : ck N sc ns (.glob k) e = true) : ∃ x pos, e = .Name x pos ∧ isGlob sc x = true ∧ hasNo N.globs x k = true := by
  rw [ck] at h
  cases q : dName e with
  | none => rw [q] at h; cases h
  | some p =>
    obtain ⟨⟨x, pos⟩, z⟩ := p
    rw [q] at h
    dsimp only at z
    exact ⟨x, pos, z, (Bool.and_eq_true _ _).mp h⟩
theorem inv_var {k : Nat} (h : ck N sc ns (.var k) e = true) : ∃ x pos, e = .Name x pos ∧ isVar sc ns k x = true := by
  rw [ck] at h
  cases q : dName e with
  | none => rw [q] at h; cases h
  | some p =>
    obtain ⟨⟨x, pos⟩, z⟩ := p
    rw [q] at h
    dsimp only at z
    exact ⟨x, pos, z, h⟩
theorem inv_bin {op : BOp} (h : ck N sc ns (.bin op a b) e = true) : ∃ l o r pos, e = .BinOp l o r pos ∧ opOk op o = true ∧ ck N sc ns a l = true ∧ ck N sc ns b r = true := by
  rw [ck] at h
  cases q : dBin e with
  | none => rw [q] at h; cases h
  | some p =>
    obtain ⟨⟨l, o, r, pos⟩, z⟩ := p
    rw [q] at h
    dsimp only at z
    simp only [Bool.and_eq_true, decide_eq_true_eq] at h
    exact ⟨l, o, r, pos, z, h.1.1, h.1.2, h.2⟩
theorem inv_neg (h : ck N sc ns (.neg a) e = true) : ∃ x pos, e = .UnaryOp .USub x pos ∧ ck N sc ns a x = true := by
  rw [ck] at h
  cases q : dUn e with
  | none => rw [q] at h; cases h
  | some p =>
    obtain ⟨⟨o, x, pos⟩, z⟩ := p
    rw [q] at h
    dsimp only at z
    simp only [Bool.and_eq_true, decide_eq_true_eq] at h
    obtain ⟨⟨_, z2⟩, _⟩ := opt_isSome h.1
    exact ⟨x, pos, by rw [z, z2], h.2⟩
theorem inv_not (h : ck N sc ns (.not a) e = true) : ∃ x pos, e = .UnaryOp .Not x pos ∧ ck N sc ns a x = true := by
  rw [ck] at h
  cases q : dUn e with
  | none => rw [q] at h; cases h
  | some p =>
    obtain ⟨⟨o, x, pos⟩, z⟩ := p
    rw [q] at h
    dsimp only at z
    simp only [Bool.and_eq_true, decide_eq_true_eq] at h
    obtain ⟨⟨_, z2⟩, _⟩ := opt_isSome h.1
    exact ⟨x, pos, by rw [z, z2], h.2⟩
theorem inv_and (h : ck N sc ns (.and a b) e = true) : ∃ x y rest pos, e = .BoolOp .And (x :: y :: rest) pos ∧ ck N sc ns a x = true ∧ ((rest = [] ∧ ck N sc ns b y = true) ∨ ck N sc ns b (.BoolOp .And (y :: rest) pos) = true) := by
  rw [ck] at h
  cases q : dBool e with
  | none => rw [q] at h; cases h
  | some p =>
    obtain ⟨⟨o, xs, pos⟩, z⟩ := p
    rw [q] at h
    dsimp only at z
    rw [Bool.and_eq_true] at h
    obtain ⟨h1, h2⟩ := h
    obtain ⟨⟨_, z1⟩, _⟩ := opt_isSome h1
    cases q2 : more xs with
    | none => rw [q2] at h2; cases h2
    | some p =>
      obtain ⟨⟨x, y, rest⟩, z2⟩ := p
      rw [q2] at h2
      dsimp only at z2 h2
      rw [Bool.and_eq_true] at h2
      refine ⟨x, y, rest, pos, by rw [z, z1, z2], h2.1, ?_⟩
      cases rest with
      | nil => exact .inl ⟨rfl, h2.2⟩
      | cons _ _ => exact .inr h2.2
theorem inv_or (h : ck N sc ns (.or a b) e = true) : ∃ x y rest pos, e = .BoolOp .Or (x :: y :: rest) pos ∧ ck N sc ns a x = true ∧ ((rest = [] ∧ ck N sc ns b y = true) ∨ ck N sc ns b (.BoolOp .Or (y :: rest) pos) = true) := by
  rw [ck] at h
  cases q : dBool e with
  | none => rw [q] at h; cases h
  | some p =>
    obtain ⟨⟨o, xs, pos⟩, z⟩ := p
    rw [q] at h
    dsimp only at z
    rw [Bool.and_eq_true] at h
    obtain ⟨h1, h2⟩ := h
    obtain ⟨⟨_, z1⟩, _⟩ := opt_isSome h1
    cases q2 : more xs with
    | none => rw [q2] at h2; cases h2
    | some p =>
      obtain ⟨⟨x, y, rest⟩, z2⟩ := p
      rw [q2] at h2
      dsimp only at z2 h2
      rw [Bool.and_eq_true] at h2
      refine ⟨x, y, rest, pos, by rw [z, z1, z2], h2.1, ?_⟩
      cases rest with
      | nil => exact .inl ⟨rfl, h2.2⟩
      | cons _ _ => exact .inr h2.2
theorem inv_cmp (h : ck N sc ns (.cmp op a b) e = true) : ∃ l r pos, e = .Compare l [cmOp op] [r] pos ∧ ck N sc ns a l = true ∧ ck N sc ns b r = true ∧ notSet r = true := by
  rw [ck] at h
  cases q : dCmp e with
  | none => rw [q] at h; cases h
  | some p =>
    obtain ⟨⟨l, os, rs, pos⟩, z⟩ := p
    rw [q] at h
    dsimp only at z
    rw [Bool.and_eq_true, decide_eq_true_eq] at h
    obtain ⟨h1, h2⟩ := h
    cases q2 : one rs with
    | none => rw [q2] at h2; cases h2
    | some p =>
      obtain ⟨r, z2⟩ := p
      rw [q2] at h2
      simp only [Bool.and_eq_true] at h2
      exact ⟨l, r, pos, by rw [z, z2, h1], h2.1.1, h2.1.2, h2.2⟩
theorem inv_cmp2 (h : ck N sc ns (.cmp2 op1 op2 a b c) e = true) : ∃ l m r pos, e = .Compare l [cmOp op1, cmOp op2] [m, r] pos ∧ ck N sc ns a l = true ∧ ck N sc ns b m = true ∧ ck N sc ns c r = true ∧ notSet r = true := by
  rw [ck] at h
  cases q : dCmp e with
  | none => rw [q] at h; cases h
  | some p =>
    obtain ⟨⟨l, os, rs, pos⟩, z⟩ := p
    rw [q] at h
    dsimp only at z
    rw [Bool.and_eq_true, decide_eq_true_eq] at h
    obtain ⟨h1, h2⟩ := h
    cases q2 : two rs with
    | none => rw [q2] at h2; cases h2
    | some p =>
      obtain ⟨⟨m, r⟩, z2⟩ := p
      rw [q2] at h2
      dsimp only at z2
      simp only [Bool.and_eq_true] at h2
      exact ⟨l, m, r, pos, by rw [z, z2, h1], h2.1.1.1, h2.1.1.2, h2.1.2, h2.2⟩
theorem inv_sub (h : ck N sc ns (.sub a b) e = true) : ∃ v s pos, e = .Subscript v s pos ∧ ck N sc ns a v = true ∧ ck N sc ns b s = true := by
  rw [ck] at h
  cases q : dSub e with
  | none => rw [q] at h; cases h
  | some p =>
    obtain ⟨⟨v, s, pos⟩, z⟩ := p
    rw [q] at h
    dsimp only at z
    exact ⟨v, s, pos, z, (Bool.and_eq_true _ _).mp h⟩
theorem inv_tup (h : ck N sc ns (.tup es) e = true) : ∃ xs k pos, e = .Tuple xs k pos ∧ ckEs N sc ns es xs = true ∧ xs.length ≤ 1000 := by
  rw [ck] at h
  cases q : dTup e with
  | none => rw [q] at h; cases h
  | some p =>
    obtain ⟨⟨xs, k, pos⟩, z⟩ := p
    rw [q] at h
    dsimp only at z
    simp only [Bool.and_eq_true, decide_eq_true_eq] at h
    exact ⟨xs, k, pos, z, h⟩
theorem inv_list (h : ck N sc ns (.list es) e = true) : ∃ xs pos, e = .List xs pos ∧ ckEs N sc ns es xs = true ∧ xs.length ≤ 1000 := by
  rw [ck] at h
  cases q : dList e with
  | none => rw [q] at h; cases h
  | some p =>
    obtain ⟨⟨xs, pos⟩, z⟩ := p
    rw [q] at h
    dsimp only at z
    simp only [Bool.and_eq_true, decide_eq_true_eq] at h
    exact ⟨xs, pos, z, h⟩
theorem inv_call {f : Nat} (h : ck N sc ns (.call f es) e = true) : ∃ x np xs pos, e = .Call (.Name x np) xs [] pos ∧ isGlob sc x = true ∧ hasNo N.funs x f = true ∧ ckEs N sc ns es xs = true ∧ xs.length ≤ 20 := by
  rw [ck] at h
  cases q : dCallN e with
  | none => rw [q] at h; cases h
  | some p =>
    obtain ⟨⟨x, np, xs, pos⟩, z⟩ := p
    rw [q] at h
    dsimp only at z
    simp only [Bool.and_eq_true, decide_eq_true_eq] at h
    exact ⟨x, np, xs, pos, z, h.1.1.1, h.1.1.2, h.1.2, h.2⟩
theorem inv_bf {f : BF} (h : ck N sc ns (.bf f es) e = true) : ∃ x np xs pos, e = .Call (.Name x np) xs [] pos ∧ isGlob sc x = true ∧ (bfName f).1 = x ∧ (bfName f).2 = xs.length ∧ ckEs N sc ns es xs = true := by
  rw [ck] at h
  cases q : dCallN e with
  | none => rw [q] at h; cases h
  | some p =>
    obtain ⟨⟨x, np, xs, pos⟩, z⟩ := p
    rw [q] at h
    dsimp only at z
    simp only [Bool.and_eq_true, decide_eq_true_eq] at h
    exact ⟨x, np, xs, pos, z, h.1.1.1, h.1.1.2, h.1.2, h.2⟩
theorem inv_bm {m : BM} (h : ck N sc ns (.bm a m es) e = true) : ∃ o y apos xs pos, e = .Call (.Attribute o y apos) xs [] pos ∧ ck N sc ns a o = true ∧ (bmName m).1 = y ∧ (bmName m).2 = xs.length ∧ ckEs N sc ns es xs = true ∧ notSuper o = true ∧ (apos.endLine == pos.line) = true := by
  rw [ck] at h
  cases q : dCallA e with
  | none => rw [q] at h; cases h
  | some p =>
    obtain ⟨⟨o, y, apos, xs, pos⟩, z⟩ := p
    rw [q] at h
    dsimp only at z
    simp only [Bool.and_eq_true, decide_eq_true_eq] at h
    exact ⟨o, y, apos, xs, pos, z.1, h.1.1.1.1, h.1.1.1.2, h.1.1.2, h.1.2, h.2, z.2⟩
theorem inv_isinst {t : Ty} (h : ck N sc ns (.isinst a t) e = true) : ∃ f np x y yp pos, e = .Call (.Name f np) [x, .Name y yp] [] pos ∧ isGlob sc f = true ∧ f = ("isinstance" : Str) ∧ isGlob sc y = true ∧ ck N sc ns a x = true ∧ tyOk N y t = true := by
  rw [ck] at h
  cases q : dCallN e with
  | none => rw [q] at h; cases h
  | some p =>
    obtain ⟨⟨f, np, xs, pos⟩, z⟩ := p
    rw [q] at h
    dsimp only at z
    dsimp only at h
    cases q2 : two xs with
    | none => rw [q2] at h; cases h
    | some p =>
      obtain ⟨⟨x, yy⟩, z2⟩ := p
      rw [q2] at h
      dsimp only at z2 h
      cases q3 : dName yy with
      | none => rw [q3] at h; cases h
      | some p =>
        obtain ⟨⟨y, yp⟩, z3⟩ := p
        rw [q3] at h
        dsimp only at z3
        simp only [Bool.and_eq_true, decide_eq_true_eq] at h
        exact ⟨f, np, x, y, yp, pos, by rw [z, z2, z3], h.1.1.1.1, h.1.1.1.2, h.1.1.2, h.1.2, h.2⟩
theorem inv_comp {elt it : ME} {cond : MEo} (h : ck N sc ns (.comp elt it cond) e = true) : ∃ el x px i ifs csc pos, e = .ListComp el [⟨.Name x px, i, ifs, 0⟩] csc pos ∧ ck N sc ns it i = true ∧ notSet i = true ∧ compOk sc csc x = true ∧
    ck N csc (inner csc ns ++ [some x]) elt el = true ∧ ckC N csc (inner csc ns ++ [some x]) cond ifs = true := by
  rw [ck] at h
  cases q : dComp e with
  | none => rw [q] at h; cases h
  | some p =>
    obtain ⟨⟨el, gs, csc, pos⟩, z⟩ := p
    rw [q] at h
    dsimp only at z
    dsimp only at h
    cases q2 : gen1 gs with
    | none => rw [q2] at h; cases h
    | some p =>
      obtain ⟨⟨x, px, i, ifs⟩, z2⟩ := p
      rw [q2] at h
      dsimp only at z2
      simp only [Bool.and_eq_true] at h
      exact ⟨el, x, px, i, ifs, csc, pos, by rw [z, z2], h.1.1.1.1, h.1.1.1.2, h.1.1.2, h.1.2, h.2⟩
/- the forms that the checker lets pass -/
noncomputable def formOk (comp : Bool) : Expr → Bool
  | .Constant .. => true
  | .Name .. => true
  | .BinOp .. => true
  | .UnaryOp .. => true
  | .BoolOp .. => true
  | .Compare .. => true
  | .Subscript .. => true
  | .Tuple .. => true
  | .List .. => true
  | .Dict .. => true
  | .Attribute .. => true
  | .Call .. => true
  | .ListComp .. => comp
  | _ => false
noncomputable def isComp : ME → Bool
  | .comp .. => true
  | _ => false
theorem ck_head {m : ME} (h : ck N sc ns m e = true) : formOk (isComp m) e = true := by
  cases m with
  | none => obtain ⟨k, pos, r⟩ := inv_none h; rw [r]; rfl
  | bool v => obtain ⟨k, pos, r⟩ := inv_bool h; rw [r]; rfl
  | int v => obtain ⟨k, pos, r⟩ := inv_int h; rw [r]; rfl
  | str v => obtain ⟨k, pos, r, _⟩ := inv_str h; rw [r]; rfl
  | glob k => obtain ⟨x, pos, r, _⟩ := inv_glob h; rw [r]; rfl
  | var k => obtain ⟨x, pos, r, _⟩ := inv_var h; rw [r]; rfl
  | bin op a b => obtain ⟨l, o, r, pos, z, _⟩ := inv_bin h; rw [z]; rfl
  | neg a => obtain ⟨x, pos, z, _⟩ := inv_neg h; rw [z]; rfl
  | not a => obtain ⟨x, pos, z, _⟩ := inv_not h; rw [z]; rfl
  | and a b => obtain ⟨x, y, r, pos, z, _⟩ := inv_and h; rw [z]; rfl
  | or a b => obtain ⟨x, y, r, pos, z, _⟩ := inv_or h; rw [z]; rfl
  | cmp op a b => obtain ⟨l, r, pos, z, _⟩ := inv_cmp h; rw [z]; rfl
  | cmp2 op1 op2 a b c => obtain ⟨l, m, r, pos, z, _⟩ := inv_cmp2 h; rw [z]; rfl
  | sub a i => obtain ⟨v, s, pos, z, _⟩ := inv_sub h; rw [z]; rfl
  | tup es => obtain ⟨xs, k, pos, z, _⟩ := inv_tup h; rw [z]; rfl
  | list es => obtain ⟨xs, pos, z, _⟩ := inv_list h; rw [z]; rfl
  | call f es => obtain ⟨x, np, xs, pos, z, _⟩ := inv_call h; rw [z]; rfl
  | bf f es => obtain ⟨x, np, xs, pos, z, _⟩ := inv_bf h; rw [z]; rfl
  | bm a m es => obtain ⟨o, y, ap, xs, pos, z, _⟩ := inv_bm h; rw [z]; rfl
  | isinst a t => obtain ⟨f, np, x, y, yp, pos, z, _⟩ := inv_isinst h; rw [z]; rfl
  | comp elt it cond => obtain ⟨el, x, px, i, ifs, csc, pos, z, _⟩ := inv_comp h; rw [z]; rfl
end
end Mine

-- part MMain
namespace Mine
open PySem

noncomputable def notStar : Expr → Bool
  | .Starred .. => false
  | _ => true
theorem starEach_plain {e : Expr} {es : List Expr} {env : Env} (h : notStar e = true) : starEach (e :: es) env = (false, eval e env) :: starEach es env := by
  cases e <;> first | rfl | cases h
theorem ck_notStar {N : Names} {sc : Scope} {ns : List (Option Str)} {m : ME} {e : Expr} (h : ck N sc ns m e = true) : notStar e = true := by
  have z := ck_head h
  cases e <;> first | rfl | cases z
theorem ckEs_plain {N : Names} {sc : Scope} {ns : List (Option Str)} {env : Env} : ∀ {ms : MEs} {xs : List Expr}, ckEs N sc ns ms xs = true → plainArgs env xs
  | .nil, [], _ => trivial
  | .nil, _ :: _, h => by simp [ckEs] at h
  | .cons _ _, [], h => by simp [ckEs] at h
  | .cons m ms, x :: xs, h => by
    simp only [ckEs, Bool.and_eq_true] at h
    exact ⟨starEach_plain (ck_notStar h.1), ckEs_plain h.2⟩
theorem ckEs_nil {N : Names} {sc : Scope} {ns : List (Option Str)} {ms : MEs} (h : ckEs N sc ns ms [] = true) : ms = .nil := by
  cases ms with
  | nil => rfl
  | cons _ _ => simp [ckEs] at h
theorem evalEs_length {T : Tab} {Φ : Funs} {Γ : Env'} {N : Names} {sc : Scope} {ns : List (Option Str)} : ∀ {ms : MEs} {xs : List Expr} {H H' : Hp} {vs : List Val}, ckEs N sc ns ms xs = true → evalEs T Φ ms Γ H = .ok vs H' → vs.length = xs.length
  | .nil, [], H, H', vs, _, e => by rw [evalEs] at e; cases e; rfl
  | .nil, _ :: _, _, _, _, h, _ => by simp [ckEs] at h
  | .cons _ _, [], _, _, _, h, _ => by simp [ckEs] at h
  | .cons m ms, x :: xs, H, H', vs, h, e => by
    simp only [ckEs, Bool.and_eq_true] at h
    rw [evalEs] at e
    cases e1 : evalE T Φ m Γ H with
    | bad => rw [bnd_bad e1] at e; cases e
    | exc c H1 => rw [bnd_exc e1] at e; cases e
    | ok v H1 =>
      rw [bnd_ok e1] at e
      cases e2 : evalEs T Φ ms Γ H1 with
      | bad => rw [bnd_bad e2] at e; cases e
      | exc c H2 => rw [bnd_exc e2] at e; cases e
      | ok vs' H2 =>
        rw [bnd_ok e2] at e
        cases e
        rw [List.length_cons, List.length_cons, evalEs_length h.2 e2]

section
variable {cx : Cx} {N : Names} {A : Around} {P : Amb} {env : Env} {Φ : Funs} {Γ : Env'}

theorem sim_nil : Sim cx A P (spliced (([] : List Expr).map fun e => (false, eval e env))) (evalEs cx.T Φ .nil Γ) (Amb.vrs cx) := by
  intro H ρ s R p
  rw [evalEs]
  exact wpAny_pure ⟨ρ, Full.refl _ _, R, .nil⟩
theorem sim_cons {m : ME} {ms : MEs} {e : Expr} {es : List Expr} (x : Sim cx A P (eval e env) (evalE cx.T Φ m Γ) (Amb.vr cx)) (y : Sim cx A P (spliced (es.map fun e => (false, eval e env))) (evalEs cx.T Φ ms Γ) (Amb.vrs cx)) :
    Sim cx A P (spliced ((e :: es).map fun e => (false, eval e env))) (evalEs cx.T Φ (.cons m ms) Γ) (Amb.vrs cx) := by
  intro H ρ s R p
  rw [evalEs]
  refine SimAt.bindK (K' := fun Q E s => wpAny (model cx.prog cx.w) A (spliced ((e :: es).map fun e => (false, eval e env))) Q E s) (K := fun v Q E s => wpAny (model cx.prog cx.w) A (spliced (es.map fun e => (false, eval e env))) (fun vs s' => Q (v :: vs) s') E s) (x H ρ s R p) ?_ ?_ ?_
  · intro b v H1 ρ1 s1 _ F1 R1 vr
    refine SimAt.bindK (K' := fun Q E s => wpAny (model cx.prog cx.w) A (spliced (es.map fun e => (false, eval e env))) (fun vs s' => Q (v :: vs) s') E s) (K := fun vs Q E s => Q (v :: vs) s) (y H1 ρ1 s1 R1 (P.st _ _ _ _ p F1)) ?_ ?_ ?_
    · intro bs vs H2 ρ2 s2 _ F2 R2 vrs
      exact ⟨ρ2, Full.refl _ _, R2, .cons (vr.step F2.step) vrs⟩
    · exact fun vs Q E Q' E' s h k _ => k _ _ h
    · exact fun Q E h => h
  · exact fun v Q E Q' E' s h k1 k2 => wpAny_mono h (fun _ _ => k1 _ _) k2
  · exact fun Q E h => Calls.spliced_cons h

theorem sim_tup {ms : MEs} {es : List Expr} {k : Nat} {pos : Pos} (hp : plainArgs env es) (hz : es.length ≤ 1000) (hlen : ∀ H vs H', evalEs cx.T Φ ms Γ H = .ok vs H' → vs.length = es.length) (y : Sim cx A P (spliced (es.map fun e => (false, eval e env))) (evalEs cx.T Φ ms Γ) (Amb.vrs cx)) :
    Sim cx A P (eval (.Tuple es k pos) env) (evalE cx.T Φ (.tup ms) Γ) (Amb.vr cx) := by
  intro H ρ s R p
  rw [evalE]
  refine SimAt.bindK (K' := fun Q E s => wpAny (model cx.prog cx.w) A (eval (.Tuple es k pos) env) Q E s) (K := fun vs Q E s₁ => vs.length ≤ sizeLine ∧ Q (.ref s₁.heap.objs.size) { s₁ with heap := s₁.heap.push (tupO vs 0) }) (y H ρ s R p) ?_ ?_ ?_
  · intro bs vs H1 ρ1 s1 e1 F1 R1 vrs
    have z : bs.length ≤ sizeLine := by rw [hlen _ _ _ e1, sizeLine_eq]; omega
    have F := Full.push ρ1 s1.heap (tupO vs 0)
    exact ⟨by rw [← vrs.length]; exact z, ρ1, F, R1.push _ _, .tup (Heap.get?_push_size _ rfl) (R1.fresh_not (fresh_none _)) z (vrs.step F.step)⟩
  · exact fun vs Q E Q' E' s h k1 _ => ⟨h.1, k1 _ _ h.2⟩
  · exact fun Q E h => wpAny_Tuple (by rw [plainArgs_trees pos hp]; exact h)
theorem sim_list {ms : MEs} {es : List Expr} {pos : Pos} (hp : plainArgs env es) (hz : es.length ≤ 1000) (hlen : ∀ H vs H', evalEs cx.T Φ ms Γ H = .ok vs H' → vs.length = es.length) (y : Sim cx A P (spliced (es.map fun e => (false, eval e env))) (evalEs cx.T Φ ms Γ) (Amb.vrs cx)) :
    Sim cx A P (eval (.List es pos) env) (evalE cx.T Φ (.list ms) Γ) (Amb.vr cx) := by
  intro H ρ s R p
  rw [evalE]
  refine SimAt.bindK (K' := fun Q E s => wpAny (model cx.prog cx.w) A (eval (.List es pos) env) Q E s) (K := fun vs Q E s₁ => vs.length ≤ sizeLine ∧ Q (.ref s₁.heap.objs.size) { s₁ with heap := s₁.heap.push (listO vs 0) }) (y H ρ s R p) ?_ ?_ ?_
  · intro bs vs H1 ρ1 s1 e1 F1 R1 vrs
    have z : bs.length ≤ sizeLine := by rw [hlen _ _ _ e1, sizeLine_eq]; omega
    refine SimK.andK (by rw [← vrs.length]; exact z) ?_
    exact R1.newList s1.toks vrs z
  · exact fun vs Q E Q' E' s h k1 _ => ⟨h.1, k1 _ _ h.2⟩
  · exact fun Q E h => wpAny_List (by rw [plainArgs_trees pos hp]; exact h)
end
end Mine

-- part MStmt
namespace Mine
open PySem

/- all that is neither owned nor the frame's own stands -/
structure FullS (env : Env) (ρ : Rho) (h : Heap) (ρ' : Rho) (h' : Heap) : Prop where
  grow : Grow ρ h ρ'
  keep : ∀ b o, h.get? b = some o → ¬ Owned ρ b → b ≠ env.locals → (∀ y, env.cells.lookup y ≠ some b) → ∃ o', h'.get? b = some o' ∧ SameUp o o'
  live : Live h h'
theorem Full.toS {env : Env} {ρ ρ' : Rho} {h h' : Heap} (x : Full ρ h ρ' h') : FullS env ρ h ρ' h' := ⟨x.grow, fun b o e n _ _ => x.keep b o e n, x.live⟩
theorem FullS.refl (env : Env) (ρ : Rho) (h : Heap) : FullS env ρ h ρ h := (Full.refl ρ h).toS
theorem FullS.trans {env : Env} {ρ ρ' ρ'' : Rho} {h h' h'' : Heap} (x : FullS env ρ h ρ' h') (y : FullS env ρ' h' ρ'' h'') : FullS env ρ h ρ'' h'' :=
  ⟨x.grow.trans y.grow x.live, fun b o e n n1 n2 => by
      obtain ⟨o', e', u⟩ := x.keep b o e n n1 n2
      obtain ⟨o'', e'', u'⟩ := y.keep b o' e' (x.grow.not n e) n1 n2
      exact ⟨o'', e'', u.trans u'⟩, x.live.trans y.live⟩

section
variable {cx : Cx} {N : Names} {A : Around} {env : Env} {sc : Scope} {ns : List (Option Str)}
theorem EnvSt.notLoc {ρ : Rho} {h : Heap} (x : EnvSt cx env sc ρ h) {b : Addr} {o : Obj} (e : h.get? b = some o) (n : ∀ es k, o.data ≠ .dict es k) : b ≠ env.locals := fun q => by
  obtain ⟨m, ob, es, ep, e', d, _⟩ := x.loc
  rw [← q, e] at e'; cases e'
  exact n _ _ d
theorem EnvSt.notCell {ρ : Rho} {h : Heap} (x : EnvSt cx env sc ρ h) {b : Addr} {o : Obj} (e : h.get? b = some o) (n : ∀ v, o.data ≠ .cell v) (y : Str) : env.cells.lookup y ≠ some b := fun q => by
  obtain ⟨⟨v, ob, e', d⟩, _⟩ := x.cells y b q
  rw [e] at e'; cases e'
  exact n _ d
theorem FullS.step {ρ ρ' : Rho} {h h' : Heap} (x : EnvSt cx env sc ρ h) (F : FullS env ρ h ρ' h') : Step ρ h ρ' h' := by
  refine ⟨let ⟨e, h1, _⟩ := F.grow; ⟨e, h1⟩, fun b o e f n => ⟨?_, F.grow.not n e⟩, fun b o C e c n => ?_⟩
  · obtain ⟨o', e', u⟩ := F.keep b o e n (x.notLoc e f.notDict) (x.notCell e fun v q => by rcases f with ⟨_, _, _, f⟩ | ⟨_, _, f⟩ <;> rw [q] at f <;> cases f)
    rw [e', u.exact f.notDict]
  · obtain ⟨o', e', u⟩ := F.keep b o e n (x.notLoc e c.notDict) (x.notCell e fun v q => by obtain ⟨_, _, f⟩ := c; rw [q] at f; cases f)
    rw [u.exact c.notDict] at e'
    exact ⟨o, e', c, F.grow.not n e⟩

noncomputable def SimSAt (cx : Cx) (A : Around) (env : Env) (sc : Scope) (ns : List (Option Str)) (r : ResS) (t : Sem Flow) (ρ : Rho) (s : Shared) : Prop :=
  match r with
  | .bad => True
  | .next Γ' H' => wpAny (model cx.prog cx.w) A t (fun f s' => f = .next ∧ ∃ ρ', FullS env ρ s.heap ρ' s'.heap ∧ Rel cx H' ρ' s' ∧ EnvOk cx env sc ns Γ' ρ' s'.heap) (fun _ _ => False) s
  | .ret v H' => wpAny (model cx.prog cx.w) A t (fun f s' => ∃ v' ρ', f = .ret v' ∧ FullS env ρ s.heap ρ' s'.heap ∧ Rel cx H' ρ' s' ∧ VR cx ρ' s'.heap v v') (fun _ _ => False) s
  | .exc c Γ' H' => wpAny (model cx.prog cx.w) A t (fun _ _ => False) (fun e s' => ∃ ρ', FullS env ρ s.heap ρ' s'.heap ∧ Rel cx H' ρ' s' ∧ EnvOk cx env sc ns Γ' ρ' s'.heap ∧ Flying cx ρ' s.heap s'.heap c e) s
noncomputable def SimS (cx : Cx) (A : Around) (l : List Env) (env : Env) (sc : Scope) (ns : List (Option Str)) (t : Sem Flow) (m : Env' → Hp → ResS) : Prop :=
  ∀ (Γ : Env') (H : Hp) (ρ : Rho) (s : Shared), Rel cx H ρ s → EnvOk cx env sc ns Γ ρ s.heap → FramesOk cx l ρ s.heap → SimSAt cx A env sc ns (m Γ H) t ρ s

/- an expression's part of a statement -/
theorem SimSAt.bind {α β : Type} {t : Sem α} {m : M β} {V : β → α → Amb} {Γ : Env'} {H : Hp} {ρ : Rho} {s : Shared} {t' : Sem Flow} {g : β → Hp → ResS} {K : α → Sem Flow} (e0 : EnvOk cx env sc ns Γ ρ s.heap) (x : SimAt cx A (m H) t V ρ s)
    (y : ∀ b a H' ρ' s', m H = .ok b H' → Full ρ s.heap ρ' s'.heap → Rel cx H' ρ' s' → EnvOk cx env sc ns Γ ρ' s'.heap → (V b a).P ρ' s'.heap → SimSAt cx A env sc ns (g b H') (K a) ρ' s')
    (k : ∀ Q E, wpAny (model cx.prog cx.w) A t (fun a s' => wpAny (model cx.prog cx.w) A (K a) Q E s') E s → wpAny (model cx.prog cx.w) A t' Q E s) :
    SimSAt cx A env sc ns (bndS m Γ g H) t' ρ s := by
  unfold bndS
  cases e : m H with
  | bad => trivial
  | exc c H' =>
    rw [e] at x
    refine k _ _ (wpAny_mono x (fun _ _ q => q.elim) fun ex s' ⟨ρ', F, R, fl⟩ => ⟨ρ', F.toS, R, e0.full F, fl⟩)
  | ok b H' =>
    rw [e] at x
    show SimSAt cx A env sc ns (g b H') t' ρ s
    cases e2 : g b H' with
    | bad => trivial
    | next Γ2 H2 =>
      refine k _ _ (wpAny_mono x (fun a s' ⟨ρ', F, R, v⟩ => ?_) fun _ _ q => q.elim)
      have z := y b a H' ρ' s' e F R (e0.full F) v
      rw [e2] at z
      exact wpAny_mono z (fun f s'' ⟨h1, ρ'', F', R', e'⟩ => ⟨h1, ρ'', F.toS.trans F', R', e'⟩) fun _ _ q => q.elim
    | ret v2 H2 =>
      refine k _ _ (wpAny_mono x (fun a s' ⟨ρ', F, R, v⟩ => ?_) fun _ _ q => q.elim)
      have z := y b a H' ρ' s' e F R (e0.full F) v
      rw [e2] at z
      exact wpAny_mono z (fun f s'' ⟨v', ρ'', h1, F', R', e'⟩ => ⟨v', ρ'', h1, F.toS.trans F', R', e'⟩) fun _ _ q => q.elim
    | exc c2 Γ2 H2 =>
      refine k _ _ (wpAny_mono x (fun a s' ⟨ρ', F, R, v⟩ => ?_) fun _ _ q => q.elim)
      have z := y b a H' ρ' s' e F R (e0.full F) v
      rw [e2] at z
      exact wpAny_mono z (fun _ _ q => q) fun ex s'' ⟨ρ'', F', R', e', fl⟩ => ⟨ρ'', F.toS.trans F', R', e', fl.older F.live⟩

/- storing a name of the frame -/
theorem store_var {Γ : Env'} {H : Hp} {ρ : Rho} {s : Shared} {i : Nat} {y : Str} {mv : Val} {v : Value} {Q : Unit → Shared → Prop} {E : Value → Shared → Prop} (hlen : Γ.length = ns.length) (hnd : ∀ (i j : Nat) (y : Str), ns[i]? = some (some y) → ns[j]? = some (some y) → i = j)
    (R : Rel cx H ρ s) (e0 : EnvOk cx env sc ns Γ ρ s.heap) (ho : isOwn sc ns i y = true) (hv : VR cx ρ s.heap mv v)
    (k : ∀ h' tk, FullS env ρ s.heap ρ h' → Rel cx H ρ { s with heap := h', toks := tk } → EnvOk cx env sc ns (Γ.set i (some mv)) ρ h' →
      (∃ q o, ((sc.names.lookup y = some .local ∧ q = env.locals) ∨ (sc.names.lookup y = some .cell ∧ env.cells.lookup y = some q)) ∧ Heap.SameBut q s.heap h' ∧ h'.get? q = some o) → Q () { s with heap := h', toks := tk }) :
    wpAny (model cx.prog cx.w) A (storeName env y v) Q E s := by
  have hown : (sc.names.lookup y = some .local ∨ sc.names.lookup y = some .cell) ∧ ns[i]? = some (some y) := by
    unfold isOwn at ho
    rw [Bool.and_eq_true] at ho
    refine ⟨?_, ?_⟩
    · have := ho.1; split at this <;> simp_all
    · have := ho.2
      split at this
      · rename_i z ez; rw [ez, of_decide_eq_true this]
      · cases this
  obtain ⟨hk, hi⟩ := hown
  have hiΓ : i < Γ.length := by rw [hlen]; exact (List.getElem?_eq_some_iff.mp hi).1
  have set_i : (Γ.set i (some mv))[i]? = some (some mv) := by rw [List.getElem?_set_self hiΓ]
  have set_j : ∀ j, j ≠ i → (Γ.set i (some mv))[j]? = Γ[j]? := fun j hj => List.getElem?_set_ne (fun q => hj q.symm)
  rcases hk with hk | hk
  · have kd : env.kindOf y = some .local := e0.st.kinds y _ hk
    obtain ⟨m, hm⟩ := e0.st.loc
    refine wpAny_storeName_local kd hm (fun h' hn hs => ?_) (by rw [e0.st.fn]; rfl)
    obtain ⟨o, es, ep, eo, d, _⟩ := id hm
    obtain ⟨o', es', ep', eo', d', _⟩ := id hn
    have n1 : ¬ Fixed o := fun f => f.notDict _ _ d
    have n2 : ∀ C, ¬ IsExcO o C := fun C f => f.notDict _ _ d
    have St : Step ρ s.heap ρ h' := Step.but eo' eo hs n1 n2
    have notc : ∀ z c, env.cells.lookup z = some c → c ≠ env.locals := fun z c hc q => by
      obtain ⟨⟨v, ob, e', dc⟩, _⟩ := e0.st.cells z c hc
      rw [q, eo] at e'; cases e'
      rw [d] at dc; cases dc
    refine (fun a b c => k h' (s.toks + 1) a b c ⟨env.locals, o', .inl ⟨hk, rfl⟩, hs, eo'⟩) ⟨Grow.refl _ _, fun b ob eb _ nb _ => ⟨ob, by rw [hs.2 b nb]; exact eb, .refl ob⟩, SameBut.live hs eo'⟩ (R.but eo' eo hs n1 n2 e0.st.locN e0.st.locB) ⟨?_, by rw [List.length_set]; exact hlen, ?_⟩
    · refine ⟨e0.st.fn, e0.st.glob, e0.st.blt, e0.st.kinds, ⟨_, hn⟩, e0.st.locN, e0.st.locB, fun z c hc => ?_, e0.st.hasCell, e0.st.apart⟩
      obtain ⟨⟨u, hu⟩, c1, c2⟩ := e0.st.cells z c hc
      exact ⟨⟨u, IsCell_keep hu fun ob eb => ⟨ob, by rw [hs.2 c (notc z c hc)]; exact eb, rfl⟩⟩, c1, c2⟩
    · intro j z mz hj hz
      by_cases q : j = i
      · subst q
        rw [set_i] at hz; cases hz
        rw [hi] at hj; cases hj
        exact ⟨v, .inl ⟨kd, _, hn, by simp⟩, hv.step St⟩
      · rw [set_j j q] at hz
        obtain ⟨u, hu, ru⟩ := e0.vals j z mz hj hz
        have zy : z ≠ y := fun e => q (hnd j i y (e ▸ hj) hi)
        refine ⟨u, ?_, ru.step St⟩
        rcases hu with ⟨kz, m', hm', ez⟩ | ⟨kz, c, hc, ez⟩
        · refine .inl ⟨kz, _, hn, ?_⟩
          obtain ⟨o2, es2, ep2, eo2, d2, _, f2⟩ := hm'
          obtain ⟨o3, es3, ep3, eo3, d3, _, f3⟩ := hm
          rw [eo2] at eo3; cases eo3
          rw [d2] at d3; cases d3
          simp only [if_neg zy]
          rw [← f3 z, f2 z]; exact ez
        · exact .inr ⟨kz, c, hc, IsCell_keep ez fun ob eb => ⟨ob, by rw [hs.2 c (notc z c hc)]; exact eb, rfl⟩⟩
  · have kd : env.kindOf y = some .cell := e0.st.kinds y _ hk
    obtain ⟨c, hc⟩ := e0.st.hasCell y (.inl hk)
    obtain ⟨⟨u0, hu0⟩, cn, cb⟩ := e0.st.cells y c hc
    refine wpAny_storeName_cell e0.st.fn kd hc hu0 fun h' hn hs => ?_
    obtain ⟨o, eo, d⟩ := id hu0
    obtain ⟨o', eo', d'⟩ := id hn
    have n1 : ¬ Fixed o := fun f => by rcases f with ⟨_, _, _, f⟩ | ⟨_, _, f⟩ <;> rw [d] at f <;> cases f
    have n2 : ∀ C, ¬ IsExcO o C := fun C f => by obtain ⟨_, _, f⟩ := f; rw [d] at f; cases f
    have St : Step ρ s.heap ρ h' := Step.but eo' eo hs n1 n2
    have notl : env.locals ≠ c := fun q => by
      obtain ⟨m, ob, es, ep, e', dl, _⟩ := e0.st.loc
      rw [q, eo] at e'; cases e'
      rw [d] at dl; cases dl
    have locK : ∀ ob, s.heap.get? env.locals = some ob → ∃ o', h'.get? env.locals = some o' ∧ o'.data = ob.data := fun ob eb => ⟨ob, by rw [hs.2 _ notl]; exact eb, rfl⟩
    refine (fun a b c' => k h' s.toks a b c' ⟨c, o', .inr ⟨hk, hc⟩, hs, eo'⟩) ⟨Grow.refl _ _, fun b ob eb _ _ nb => ⟨ob, by rw [hs.2 b (fun q => nb y (q ▸ hc))]; exact eb, .refl ob⟩, SameBut.live hs eo'⟩ (R.but eo' eo hs n1 n2 cn cb) ⟨?_, by rw [List.length_set]; exact hlen, ?_⟩
    · obtain ⟨m, hm⟩ := e0.st.loc
      refine ⟨e0.st.fn, e0.st.glob, e0.st.blt, e0.st.kinds, ⟨m, Heap_Ns_keep hm locK⟩, e0.st.locN, e0.st.locB, fun z c' hc' => ?_, e0.st.hasCell, e0.st.apart⟩
      obtain ⟨⟨u, hu⟩, c1, c2⟩ := e0.st.cells z c' hc'
      by_cases q : c' = c
      · subst q; exact ⟨⟨_, hn⟩, c1, c2⟩
      · exact ⟨⟨u, IsCell_keep hu fun ob eb => ⟨ob, by rw [hs.2 c' q]; exact eb, rfl⟩⟩, c1, c2⟩
    · intro j z mz hj hz
      by_cases q : j = i
      · subst q
        rw [set_i] at hz; cases hz
        rw [hi] at hj; cases hj
        exact ⟨v, .inr ⟨.inl kd, c, hc, hn⟩, hv.step St⟩
      · rw [set_j j q] at hz
        obtain ⟨u, hu, ru⟩ := e0.vals j z mz hj hz
        have zy : z ≠ y := fun e => q (hnd j i y (e ▸ hj) hi)
        refine ⟨u, ?_, ru.step St⟩
        rcases hu with ⟨kz, m', hm', ez⟩ | ⟨kz, c', hc', ez⟩
        · exact .inl ⟨kz, m', Heap_Ns_keep hm' locK, ez⟩
        · have cc : c' ≠ c := fun e => zy (e0.st.apart z y c' hc' (e ▸ hc))
          exact .inr ⟨kz, c', hc', IsCell_keep ez fun ob eb => ⟨ob, by rw [hs.2 c' cc]; exact eb, rfl⟩⟩
end
end Mine

-- part MFun
namespace Mine
open PySem

/- calls of the text's defs do as the mini functions do -/
noncomputable def FunsOk (cx : Cx) (Φ : Funs) (d : Nat) : Prop :=
  ∀ (k : Nat) (a : Addr) (args : List Val) (vals : List Value) (A : Around) (l : List Env), cx.fns[k]? = some a → Room A d → A.frames = some l →
    Sim cx A ((Amb.vrs cx args vals).and (Amb.frames cx l)) (call (.ref a) vals) (Φ k args) (Amb.vr cx)

section
variable {cx : Cx} {N : Names} {A : Around} {env : Env} {sc : Scope} {ns : List (Option Str)} {Γ : Env'} {Φ : Funs} {d : Nat} {l : List Env}

/- a def's object -/
theorem Base.func (B : Base cx N) {k : Nat} {a : Addr} (hk : cx.fns[k]? = some a) (hd : ∃ f, cx.T.funs[k]? = some f) : ∃ o fd, cx.h₀.get? a = some o ∧ o.data = .func fd := by
  obtain ⟨f, hf⟩ := hd
  obtain ⟨o, fd, body, ns, e, _, d, _⟩ := (B.fns k a f hk hf).is
  exact ⟨o, fd, e, d⟩

theorem sim_callU (B : Base cx N) (hΦ : FunsOk cx Φ d) (room : Room A d) (hfr : A.frames = some l) {f : Nat} {x : Str} {xs : List Expr} {es : MEs} {np pos : Pos} (hg : isGlob sc x = true) (hk : hasNo N.funs x f = true) (hex : ∃ g, cx.T.funs[f]? = some g) (hes : ckEs N sc ns es xs = true)
    (y : Sim cx A ((Amb.env cx env sc ns Γ).and (Amb.frames cx l)) (spliced (xs.map fun e => (false, eval e env))) (evalEs cx.T Φ es Γ) (Amb.vrs cx)) :
    Sim cx A ((Amb.env cx env sc ns Γ).and (Amb.frames cx l)) (eval (.Call (.Name x np) xs [] pos) env) (evalE cx.T Φ (.call f es) Γ) (Amb.vr cx) := by
  obtain ⟨mg, mb, ng, nb, q, _⟩ := B.ns
  obtain ⟨a, ha, hx⟩ := q x f (hasNo_eq hk)
  obtain ⟨o, fd, ho, hd⟩ := B.func ha hex
  intro H ρ s R p
  rw [evalE]
  refine SimK.mono (simK_args (f := .ref a) (K := fun vs Q E s => (s.heap.get? a = some o ∧ o.data = .func fd) ∧ wpAny (model cx.prog cx.w) A (call (.ref a) vs) Q E s) (fun e => ckEs_nil (e ▸ hes)) R (y H ρ s R p) ?_ ?_) ?_
  · intro ms vs H1 ρ1 s1 _ F1 R1 vrs
    exact SimK.andK ⟨R1.base _ _ ho, hd⟩ (hΦ f a ms vs A l ha room hfr H1 ρ1 s1 R1 ⟨vrs, (Amb.frames cx l).st _ _ _ _ p.2 F1⟩)
  · exact fun vs Q E Q' E' s h k1 k2 => ⟨h.1, wpAny_mono h.2 k1 k2⟩
  · intro Q E h
    refine wpAny_Call_ofName (wp_glob R p.1.st hg ng nb (.inl hx) ?_)
    rw [plainArgs_trees pos (ckEs_plain hes)]
    exact Calls.callWith_function (o := o) (fd := fd) (wpAny_mono h (fun b s₁ h₁ => by rw [h₁.1]; exact h₁.2) fun _ _ q => q)

/-! ## entering a def -/
theorem zip_lookup_get {α : Type} : ∀ {ns : List Str} {vs : List α} {i : Nat} {y : Str} {v : α}, ns.Nodup → ns[i]? = some y → vs[i]? = some v → (ns.zip vs).lookup y = some v
  | [], _, _, _, _, _, h, _ => by simp at h
  | _ :: _, [], _, _, _, _, _, h => by simp at h
  | n :: ns, u :: vs, 0, y, v, _, h1, h2 => by simp at h1 h2; subst h1 h2; simp [List.zip_cons_cons]
  | n :: ns, u :: vs, i + 1, y, v, nd, h1, h2 => by
    simp at h1 h2
    have ne : (y == n) = false := by
      have : y ∈ ns := List.mem_of_getElem? h1
      simpa using fun e : y = n => (List.nodup_cons.mp nd).1 (e ▸ this)
    rw [List.zip_cons_cons, List.lookup_cons, ne]
    exact zip_lookup_get (List.nodup_cons.mp nd).2 h1 h2
theorem filterMap_zip : ∀ {ns : List Str} {vs : List Value}, ns.Nodup → vs.length = ns.length → (ns.filterMap fun n => ((ns.zip vs).lookup n).map (n, ·)) = ns.zip vs := by
  have gen : ∀ (ns : List Str) (vs : List Value) (look : Str → Option Value), vs.length = ns.length → (∀ (i : Nat) (y : Str) (v : Value), ns[i]? = some y → vs[i]? = some v → look y = some v) → (ns.filterMap fun n => (look n).map (n, ·)) = ns.zip vs := by
    intro ns
    induction ns with
    | nil => intro vs look _ _; rfl
    | cons n ns ih =>
      intro vs look hl k
      cases vs with
      | nil => simp at hl
      | cons v vs =>
        have e := k 0 n v (by simp) (by simp)
        rw [List.filterMap_cons, e]
        simp only [Option.map_some, List.zip_cons_cons]
        rw [ih vs look (by simpa using hl) fun i y u h1 h2 => k (i + 1) y u (by simpa using h1) (by simpa using h2)]
  intro ns vs nd hl
  exact gen ns vs _ hl fun i y v h1 h2 => zip_lookup_get nd h1 h2
theorem bindArgs_plain {fd : FuncData} {vals : List Value} {names : List Str} (h1 : fd.params.posonlyargs = []) (h2 : fd.params.args.map (·.arg) = names) (h3 : fd.params.vararg = none) (h4 : fd.params.kwonlyargs = []) (h5 : fd.params.kwarg = none) (h6 : fd.defaults = .none)
    (nd : names.Nodup) (hl : vals.length = names.length) : bindArgs fd ⟨vals, []⟩ = pure (names.zip vals) := by
  unfold bindArgs
  have hs : seqItems? Value.none = pure none := rfl
  have hmiss : ∀ k : Nat, ((names.take k).filter fun n => ((names.zip vals).lookup n).isNone) = [] := by
    intro k
    rw [List.filter_eq_nil_iff]
    intro n hn
    obtain ⟨i, hi⟩ := List.mem_iff_getElem?.mp (List.mem_of_mem_take hn)
    have lt : i < vals.length := by rw [hl]; exact (List.getElem?_eq_some_iff.mp hi).1
    rw [zip_lookup_get nd hi (List.getElem?_eq_getElem lt)]
    simp
  simp only [h1, h2, h3, h4, h5, h6, List.map_nil, List.nil_append, List.append_nil, hs, pure_bind, hl, List.forIn_nil, Option.getD_none, List.length_nil, Nat.sub_zero, List.drop_nil, Nat.lt_irrefl, decide_false, Bool.false_and, Bool.false_eq_true, if_false, hmiss, List.isEmpty_nil, Bool.not_true, List.zip_nil_right, filterMap_zip nd hl]

theorem cells_has : ∀ {names : List (Str × NameKind)} {n : Nat} {acc : List (Str × Addr)} {y : Str}, ((y, NameKind.cell) ∈ names ∨ (acc.lookup y).isSome = true) → ((cellsFrom n names acc).lookup y).isSome = true
  | [], _, _, _, h => by
    rcases h with h | h
    · cases h
    · exact h
  | (z, k) :: r, n, acc, y, h => by
    unfold cellsFrom
    split
    · rename_i hk
      refine cells_has ?_
      rcases h with h | h
      · rcases List.mem_cons.mp h with e | h
        · cases e; right; simp
        · exact .inl h
      · right
        rw [List.lookup_cons]
        split
        · rfl
        · exact h
    · rename_i hk
      refine cells_has ?_
      rcases h with h | h
      · rcases List.mem_cons.mp h with e | h
        · cases e; simp at hk
        · exact .inl h
      · exact .inr h
theorem bindL_get {kd : Str → Option NameKind} : ∀ {binds : List (Str × Value)} {m : Str → Option Value} {y : Str} {v : Value}, (binds.map (·.1)).Nodup → (y, v) ∈ binds → kd y = some .local → bindL kd binds m y = some v := by
  have keep : ∀ (binds : List (Str × Value)) (m : Str → Option Value) (y : Str), y ∉ binds.map (·.1) → bindL kd binds m y = m y := by
    intro binds
    induction binds with
    | nil => intro m y _; rfl
    | cons b r ih =>
      intro m y hy
      obtain ⟨n, v⟩ := b
      simp only [List.map_cons, List.mem_cons, not_or] at hy
      unfold bindL
      rw [ih _ _ hy.2]
      split
      · simp [hy.1]
      · rfl
  intro binds
  induction binds with
  | nil => intro m y v _ h _; cases h
  | cons b r ih =>
    intro m y v nd h hk
    obtain ⟨n, u⟩ := b
    rw [List.map_cons, List.nodup_cons] at nd
    unfold bindL
    rcases List.mem_cons.mp h with e | h
    · cases e
      rw [keep _ _ _ nd.1, if_pos hk]
      simp
    · exact ih nd.2 h hk
theorem bindC_get {kd : Str → Option NameKind} : ∀ {binds : List (Str × Value)} {m : Str → Option Value} {y : Str} {v : Value}, (binds.map (·.1)).Nodup → (y, v) ∈ binds → kd y ≠ some .local → bindC kd binds m y = some v := by
  have keep : ∀ (binds : List (Str × Value)) (m : Str → Option Value) (y : Str), y ∉ binds.map (·.1) → bindC kd binds m y = m y := by
    intro binds
    induction binds with
    | nil => intro m y _; rfl
    | cons b r ih =>
      intro m y hy
      obtain ⟨n, v⟩ := b
      simp only [List.map_cons, List.mem_cons, not_or] at hy
      unfold bindC
      rw [ih _ _ hy.2]
      split
      · rfl
      · simp [hy.1]
  intro binds
  induction binds with
  | nil => intro m y v _ h _; cases h
  | cons b r ih =>
    intro m y v nd h hk
    obtain ⟨n, u⟩ := b
    rw [List.map_cons, List.nodup_cons] at nd
    unfold bindC
    rcases List.mem_cons.mp h with e | h
    · cases e
      rw [keep _ _ _ nd.1, if_neg hk]
      simp
    · exact ih nd.2 h hk

/- the statements of a def's body do as the mini statements do -/
noncomputable def BodyOk (cx : Cx) (N : Names) (Φ : Funs) (d : Nat) : Prop :=
  ∀ (body : MSs) (stmts : List Stmt) (env : Env) (sc : Scope) (ns : List (Option Str)) (A : Around) (l : List Env), ckSs N sc ns body stmts = true → (∀ (i j : Nat) (y : Str), ns[i]? = some (some y) → ns[j]? = some (some y) → i = j) → Room A d → A.frames = some (env :: l) →
    env.frame = some env.locals → SimS cx A (env :: l) env sc ns (execs stmts env) (execSs cx.T Φ body)

theorem nodupS_inj : ∀ {ns : List (Option Str)}, nodupS ns = true → ∀ (i j : Nat) (y : Str), ns[i]? = some (some y) → ns[j]? = some (some y) → i = j
  | [], _, i, _, _, h, _ => by simp at h
  | none :: r, nd, i, j, y, h1, h2 => by
    cases i with
    | zero => simp at h1
    | succ i => cases j with
      | zero => simp at h2
      | succ j => simp at h1 h2; rw [nodupS_inj (by simpa [nodupS] using nd) i j y h1 h2]
  | some x :: r, nd, i, j, y, h1, h2 => by
    simp only [nodupS, Bool.and_eq_true, Bool.not_eq_true', List.contains_eq_mem, decide_eq_false_iff_not] at nd
    cases i with
    | zero =>
      cases j with
      | zero => rfl
      | succ j =>
        simp at h1 h2
        subst h1
        exact absurd (List.mem_of_getElem? h2) nd.1
    | succ i =>
      cases j with
      | zero =>
        simp at h1 h2
        subst h2
        exact absurd (List.mem_of_getElem? h1) nd.1
      | succ j =>
        simp at h1 h2
        rw [nodupS_inj nd.2 i j y h1 h2]
theorem nodup_of_inj {ns : List Str} (h : ∀ (i j : Nat) (y : Str), (ns.map some)[i]? = some (some y) → (ns.map some)[j]? = some (some y) → i = j) : ns.Nodup := by
  refine List.pairwise_iff_getElem.mpr fun i j hi hj lt e => ?_
  have := h i j ns[i] (by rw [List.getElem?_map, List.getElem?_eq_getElem hi]; rfl) (by rw [List.getElem?_map, List.getElem?_eq_getElem hj, e]; rfl)
  omega

theorem ckF_parts {f : MFun} {names : List Str} {params : Arguments} {body : List Stmt} {sc : Scope} (h : ckF N f names params body sc = true) :
    f.arity + f.nvars = names.length ∧ names.take f.arity = params.args.map (·.arg) ∧ params.posonlyargs = [] ∧ params.vararg = none ∧ params.kwonlyargs = [] ∧ params.kwarg = none ∧ nodupS (names.map some) = true ∧
      sc.isCoroutine = false ∧ sc.isGenerator = false ∧ sc.kind = .function ∧ ckSs N sc (names.map some) f.body body = true ∧
      (∀ p ∈ sc.names, p.2 = .cell → sc.names.lookup p.1 = some .cell) ∧ (∀ p ∈ sc.names, p.2 ≠ .free) ∧ (∀ y ∈ names.take f.arity, sc.names.lookup y = some .local ∨ sc.names.lookup y = some .cell) := by
  unfold ckF at h
  simp only [Bool.and_eq_true, decide_eq_true_eq, List.isEmpty_iff, Option.isNone_iff_eq_none, Bool.not_eq_true'] at h
  obtain ⟨⟨⟨⟨⟨⟨⟨⟨⟨⟨⟨⟨⟨⟨h1, h2⟩, h3⟩, h4⟩, h5⟩, h6⟩, h7⟩, h8⟩, h9⟩, h10⟩, h11⟩, h12⟩, h13⟩, h14⟩, h15⟩ := h
  refine ⟨h1, h2, h3, h4, h5, h6, h9, h10, h11, ?_, h13, ?_, ?_, ?_⟩
  · split at h12
    · assumption
    · cases h12
  · intro p hp hc
    have := List.all_eq_true.mp h14 p hp
    rw [hc] at this
    simp only at this
    split at this
    · assumption
    · cases this
  · intro p hp hc
    have := List.all_eq_true.mp h14 p hp
    rw [hc] at this
    cases this
  · intro y hy
    have := List.all_eq_true.mp h15 y hy
    split at this
    · left; assumption
    · right; assumption
    · cases this

theorem Room.deeper {d : Nat} (r : Room A (d + 1)) (env : Env) : Room (A.deeper env) d := ⟨r.hh, by have := r.depth; show A.depth + 1 + _ + _ < _; omega, by have := r.units; show A.units + 3 + _ + _ < _; omega⟩

theorem FunsOk.step (B : Base cx N) (hb : BodyOk cx N (callF cx.T d) d) : FunsOk cx (callF cx.T (d + 1)) (d + 1) := by
  intro k a args vals A l hk room hfr H ρ s R ⟨vrs, fok⟩
  rw [callF]
  cases hf : cx.T.funs[k]? with
  | none => trivial
  | some f =>
    show SimAt cx A (if args.length = f.arity then resOf (execSs cx.T (callF cx.T d) f.body (args.map some ++ List.replicate f.nvars none) H) else .bad) _ _ ρ s
    by_cases hl : args.length = f.arity
    · rw [if_pos hl]
      obtain ⟨o, fd, body, names, ho, hoc, hdata, hcd, hbody, hclo, hglob, hblt, hdf, hkd, hck⟩ := (B.fns k a f hk hf).is
      obtain ⟨c1, c2, c3, c4, c5, c6, c7, c8, c9, c10, c11, c12, c13, c14⟩ := ckF_parts hck
      have nd := nodupS_inj c7
      have nds : names.Nodup := nodup_of_inj nd
      have ndt : (names.take f.arity).Nodup := nds.sublist (List.take_sublist _ _)
      have vlen : vals.length = (names.take f.arity).length := by rw [List.length_take, ← vrs.length, hl]; omega
      have hbind : bindArgs fd ⟨vals, []⟩ = pure ((names.take f.arity).zip vals) := bindArgs_plain c3 c2.symm c4 c5 c6 hdf ndt vlen
      have hkind : ∀ x ∈ (names.take f.arity).zip vals, fd.scope.names.lookup x.1 = some .local ∨ (fd.scope.names.lookup x.1 = some .cell ∧ ((cellsFrom (s.heap.objs.size + 1) fd.scope.names []).lookup x.1).isSome = true) := by
        intro x hx
        rcases c14 x.1 (List.of_mem_zip hx).1 with h | h
        · exact .inl h
        · exact .inr ⟨h, cells_has (.inl (mem_of_lookup h))⟩
      generalize henv : callEnvC fd s.heap.objs.size a = env
      have eloc : env.locals = s.heap.objs.size := by rw [← henv]; rfl
      have escope : env.scope = fd.scope := by rw [← henv]; rfl
      have ecells : env.cells = cellsFrom (s.heap.objs.size + 1) fd.scope.names [] := by rw [← henv]; rfl
      have egl : env.globals = mainGlobals := by rw [← henv]; exact hglob
      have ebl : env.builtins = builtinsNs := by rw [← henv]; exact hblt
      have efr : env.frame = some env.locals := by rw [← henv]; rfl
      have ekind : ∀ y, env.kindOf y = fd.scope.names.lookup y := fun y => by unfold Env.kindOf; rw [escope]
      -- the body
      have main : ∀ s₁, InCallC s env.locals (bindL env.kindOf ((names.take f.arity).zip vals) fun _ => none) env.cells (bindC env.kindOf ((names.take f.arity).zip vals) fun _ => none) s₁ →
          Full ρ s.heap ρ s₁.heap ∧ SimSAt cx (A.deeper env) env fd.scope (names.map some) (execSs cx.T (callF cx.T d) f.body (args.map some ++ List.replicate f.nvars none) H) (execs body env) ρ s₁ := by
        intro s₁ x
        have hkeep := x.toInCall.keep
        have F0 : Full ρ s.heap ρ s₁.heap := Full.more hkeep
        obtain ⟨h₁, tk, e1⟩ := x.toInCall.same
        have R1 : Rel cx H ρ s₁ := by rw [e1] at hkeep ⊢; exact R.more hkeep
        have locfresh : s.heap.get? env.locals = none := by rw [eloc]; exact fresh_none _
        have lvB : Live cx.h₀ s.heap := fun b o e => ⟨o, R.base b o e⟩
        have cfresh : ∀ y c, env.cells.lookup y = some c → s.heap.get? c = none := fun y c hc => fresh_le (by have := x.above y c (mem_of_lookup hc); rw [eloc] at this; exact Nat.le_of_lt this)
        have cellFacts : ∀ y c, env.cells.lookup y = some c → s₁.heap.IsCell c (bindC env.kindOf ((names.take f.arity).zip vals) (fun _ => none) y) := fun y c hc => x.cell y c hc
        have eok : EnvOk cx env fd.scope (names.map some) (args.map some ++ List.replicate f.nvars none) ρ s₁.heap := by
          refine ⟨⟨by rw [escope]; exact c10, egl, ebl, fun y kd hy => ?_, ⟨_, x.toInCall.ns⟩, R.fresh_not locfresh, lvB.none locfresh, fun y c hc => ⟨⟨_, cellFacts y c hc⟩, R.fresh_not (cfresh y c hc), lvB.none (cfresh y c hc)⟩, fun y hy => ?_, fun y z c hy hz => name_of_addr x.apart (mem_of_lookup hy) (mem_of_lookup hz)⟩, by rw [List.length_append, List.length_map, List.length_replicate, List.length_map, hl]; exact c1, ?_⟩
          · rw [ekind, hy]
            cases kd <;> first | rfl | exact .inl rfl | trivial
          · rcases hy with hy | hy
            · rw [ecells]
              exact Option.isSome_iff_exists.mp (cells_has (.inl (mem_of_lookup hy)))
            · exact absurd rfl (c13 _ (mem_of_lookup hy))
          · intro i y mv hi hm
            have hi' : names[i]? = some y := by rw [List.getElem?_map] at hi; cases q : names[i]? <;> rw [q] at hi <;> simp at hi; rw [hi]
            by_cases lt : i < f.arity
            · have ha : args[i]? = some mv := by
                rw [List.getElem?_append_left (by rw [List.length_map, hl]; exact lt), List.getElem?_map] at hm
                cases q : args[i]? <;> rw [q] at hm <;> simp at hm
                rw [hm]
              obtain ⟨v, ev, vr⟩ := vrs.get ha
              have et : (names.take f.arity)[i]? = some y := by rw [List.getElem?_take, if_pos lt]; exact hi'
              have mem : (y, v) ∈ (names.take f.arity).zip vals := by
                refine List.mem_iff_getElem?.mpr ⟨i, ?_⟩
                rw [List.getElem?_zip_eq_some]; exact ⟨et, ev⟩
              have ndz : (((names.take f.arity).zip vals).map (·.1)).Nodup := by
                rw [List.map_fst_zip (by rw [vlen]; exact Nat.le_refl _)]; exact ndt
              refine ⟨v, ?_, vr.step F0.step⟩
              rcases c14 y (List.mem_of_getElem? et) with h | h
              · exact .inl ⟨by rw [ekind]; exact h, _, x.toInCall.ns, bindL_get ndz mem (by rw [ekind]; exact h)⟩
              · obtain ⟨c, hc⟩ := Option.isSome_iff_exists.mp (cells_has (n := s.heap.objs.size + 1) (acc := []) (.inl (mem_of_lookup h)))
                rw [← ecells] at hc
                have := cellFacts y c hc
                rw [bindC_get ndz mem (by rw [ekind, h]; simp)] at this
                exact .inr ⟨.inl (by rw [ekind]; exact h), c, hc, this⟩
            · exfalso
              rw [List.getElem?_append_right (by rw [List.length_map, hl]; omega), List.getElem?_replicate] at hm
              split at hm <;> simp at hm
        refine ⟨F0, hb f.body body env fd.scope (names.map some) (A.deeper env) l c11 nd (room.deeper env) (by show A.frames.map (env :: ·) = _; rw [hfr]; rfl) efr _ H ρ s₁ R1 eok ?_⟩
        · intro e he
          rcases List.mem_cons.mp he with rfl | he
          · obtain ⟨o', es, ep, eo', d', _⟩ := x.toInCall.ns
            exact ⟨by rw [escope, c10]; simp, e.locals, o', efr, lvB.none locfresh, eo', ⟨_, _, d'⟩, R.fresh_not locfresh⟩
          · exact (fok.full F0) e he
      -- what stands of the caller's heap
      have back : ∀ {s₁ ρ' h'}, Full ρ s.heap ρ s₁ → FullS env ρ s₁ ρ' h' → (∀ y c, env.cells.lookup y = some c → s.heap.get? c = none) → Full ρ s.heap ρ' h' := by
        intro s₁ ρ' h' F0 F1 cf
        refine ⟨?_, fun b ob e n => ?_, F0.live.trans F1.live⟩
        · exact F0.grow.trans F1.grow F0.live
        · obtain ⟨o1, e1, u1⟩ := F0.keep b ob e n
          obtain ⟨o2, e2, u2⟩ := F1.keep b o1 e1 n (fun q => by rw [q, eloc, fresh_none] at e; cases e) (fun y q => by rw [cf y b q] at e; cases e)
          exact ⟨o2, e2, u1.trans u2⟩
      have cf : ∀ y c, env.cells.lookup y = some c → s.heap.get? c = none := fun y c hc => by
        refine fresh_le ?_
        have ok := cellsFrom_ok fd.scope.names (s.heap.push { cls := .type "frame", data := .dict #[] }) (s.heap.objs.size + 1) [] ⟨fun _ _ hm => (nomatch hm), List.Pairwise.nil⟩ (by rw [Heap.size_push]; exact Nat.le_refl _)
        rw [Heap.size_push] at ok
        rw [ecells] at hc
        exact Nat.le_of_succ_le (ok.empty y c (mem_of_lookup hc)).2
      have hlim : s.heap.NoLimit := B.lim.keeps R.base
      have hcd' : s.heap.CodeRec fd.code fd.qualname := hcd.keeps R.base
      generalize hres : execSs cx.T (callF cx.T d) f.body (args.map some ++ List.replicate f.nvars none) H = res at main
      cases res with
      | bad => trivial
      | next Γ' H' =>
        refine wpAny_call (codeAny_call_cells (by have := room.depth; omega) (R.base _ _ ho) hdata hlim hcd' hbody hbind hclo hkind (fun s₁ x => ?_) c8 c9 c10)
        rw [henv] at x ⊢
        obtain ⟨F0, sim⟩ := main s₁ x
        exact wpAny_mono sim (fun fl s' ⟨h1, ρ', F1, R', _⟩ => by subst h1; exact ⟨ρ', back F0 F1 cf, R', .none⟩) fun _ _ q => q.elim
      | ret v H' =>
        refine wpAny_call (codeAny_call_cells (by have := room.depth; omega) (R.base _ _ ho) hdata hlim hcd' hbody hbind hclo hkind (fun s₁ x => ?_) c8 c9 c10)
        rw [henv] at x ⊢
        obtain ⟨F0, sim⟩ := main s₁ x
        exact wpAny_mono sim (fun fl s' ⟨v', ρ', h1, F1, R', vr⟩ => by subst h1; exact ⟨ρ', back F0 F1 cf, R', vr⟩) fun _ _ q => q.elim
      | exc c Γ' H' =>
        trivial
    · rw [if_neg hl]; trivial
end
end Mine

-- part MIter
namespace Mine
open PySem

/- an iterator over xs that has handed out i of them -/
inductive ItOk (cx : Cx) (xs : List Val) (I : Addr) (i : Nat) (ρ : Rho) (h : Heap) : Option Nat → Prop
  | list {l : Nat} {p : Addr × Addr} : ρ[l]? = some p → h.IsListIter I p.1 i → ItOk cx xs I i ρ h (some l)
  | tup {a : Addr} {vs : List Value} {n : Nat} : h.get? a = some (tupO vs n) → ¬ Owned ρ a → VRs cx ρ h xs vs → h.IsTupleIter I a i → ItOk cx xs I i ρ h none
  | script {a : Addr} {vs : List Value} {n : Nat} : cx.h₀.get? a = some (listO vs n) → VRs cx ρ h xs vs → h.IsListIter I a i → ItOk cx xs I i ρ h none
  | rng {n : Int} : xs = (List.range n.toNat).map (fun (k : Nat) => Val.int (k : Int)) → IsRangeIter h I (i : Nat) ((n.toNat : Int) - (i : Nat)) 1 → ItOk cx xs I i ρ h none
  | str {x : Str} {t : Tok} {ty : String} : xs = x.cps.toList.map (fun c => Val.str ⟨#[c]⟩) → (ty = "str_ascii_iterator" ∨ ty = "str_iterator") → h.IsStrIter I ty x t i → ItOk cx xs I i ρ h none

/- an iterator's object -/
noncomputable def IterO (o : Obj) : Prop := (∃ vs, o.data = .fields vs) ∧ ∃ n, o.cls = .type n ∧ n ≠ "range"
theorem IterO.not {o : Obj} (x : IterO o) : ¬ Fixed o ∧ ∀ C, ¬ IsExcO o C := by
  obtain ⟨⟨vs, d⟩, n, c, ne⟩ := x
  refine ⟨fun f => ?_, fun C f => ?_⟩
  · rcases f with ⟨_, xs, k, f⟩ | ⟨f, _⟩
    · rw [d] at f; cases f
    · rw [c] at f; cases f; exact ne rfl
  · rw [f.1] at c; cases c
theorem IterO.notDict {o : Obj} (x : IterO o) (es : Array DictEntry) (n : Nat) : o.data ≠ .dict es n := by
  obtain ⟨⟨vs, d⟩, _⟩ := x
  rw [d]; exact fun q => nomatch q
theorem IterO.notCell {o : Obj} (x : IterO o) (v : Option Value) : o.data ≠ .cell v := by
  obtain ⟨⟨vs, d⟩, _⟩ := x
  rw [d]; exact fun q => nomatch q

section
variable {cx : Cx} {A : Around} {xs : List Val} {I : Addr} {i : Nat} {ρ ρ' : Rho} {s : Shared} {H : Hp} {src : Option Nat}

theorem ItOk.step {h h' : Heap} (x : ItOk cx xs I i ρ h src) (st : Step ρ h ρ' h') (k : ∀ o, h.get? I = some o → h'.get? I = some o) : ItOk cx xs I i ρ' h' src := by
  cases x with
  | list hp hi => exact .list (st.get hp) (hi.at k)
  | tup e n r hi => exact .tup (st.keepT _ _ e (.inl ⟨rfl, _, _, rfl⟩) n).1 (st.keepT _ _ e (.inl ⟨rfl, _, _, rfl⟩) n).2 (r.step st) (hi.at k)
  | script e r hi => exact .script e (r.step st) (hi.at k)
  | rng e hi => exact .rng e (k _ hi)
  | str e ht hs => obtain ⟨o, e1, e2⟩ := hs; exact .str e ht ⟨o, k o e1, e2⟩
theorem ItOk.obj {h : Heap} (x : ItOk cx xs I i ρ h src) : ∃ o, h.get? I = some o ∧ IterO o := by
  cases x with
  | list hp hi => obtain ⟨o, e, c, d⟩ := hi; exact ⟨o, e, ⟨_, d⟩, _, c, by decide⟩
  | tup e n r hi => obtain ⟨o, e, c, d⟩ := hi; exact ⟨o, e, ⟨_, d⟩, _, c, by decide⟩
  | script e r hi => obtain ⟨o, e, c, d⟩ := hi; exact ⟨o, e, ⟨_, d⟩, _, c, by decide⟩
  | rng e hi => exact ⟨_, hi, ⟨_, rfl⟩, _, rfl, by decide⟩
  | str e ht hs => obtain ⟨o, e, c, d⟩ := hs; exact ⟨o, e, ⟨_, d⟩, _, c, by rcases ht with rfl | rfl <;> decide⟩

theorem iter_start {v : Val} {w : Value} (R : Rel cx H ρ s) (vr : VR cx ρ s.heap v w) (e : iterOf v H = some (xs, src)) {Q : Value → Shared → Prop} {E : Value → Shared → Prop}
    (k : ∀ o, (s.heap.push o).get? s.heap.objs.size = some o → ItOk cx xs s.heap.objs.size 0 ρ (s.heap.push o) src → Q (.ref s.heap.objs.size) { s with heap := s.heap.push o }) :
    wpAny (model cx.prog cx.w) A (pyIter w) Q E s := by
  have P := fun o => Full.push ρ s.heap o
  cases vr with
  | @loc l p hp =>
    simp only [iterOf] at e
    split at e
    · rename_i ys hl
      cases e
      obtain ⟨vs, n, _, g, r, z⟩ := R.listAt hl hp
      refine wpAny_pyIter_list (items := vs.toArray) ⟨_, g, rfl, n, rfl⟩ (k _ (Heap.get?_push_size _ rfl) (.list hp ⟨_, Heap.get?_push_size _ rfl, rfl, rfl⟩))
    · cases e
  | @tup a vs n ms g no z r =>
    cases e
    exact wpAny_pyIter_tuple (items := vs.toArray) ⟨_, g, rfl, n, rfl⟩ (k _ (Heap.get?_push_size _ rfl) (.tup (Heap.get?_push_of_some _ g) no (r.step (P _).step) ⟨_, Heap.get?_push_size _ rfl, rfl, rfl⟩))
  | @script a vs n ns g z r =>
    cases e
    exact wpAny_pyIter_list (items := vs.toArray) ⟨_, R.base _ _ g, rfl, n, rfl⟩ (k _ (Heap.get?_push_size _ rfl) (.script g (r.step (P _).step) ⟨_, Heap.get?_push_size _ rfl, rfl, rfl⟩))
  | @rng a n t u v g no z1 z2 =>
    cases e
    refine wpAny_pyIter_range g (small_one (by omega) (by omega) z1 z2) (k _ (Heap.get?_push_size _ rfl) (.rng rfl ?_))
    have e1 : Builtin.Range.rangeSize 0 n 1 = ((n.toNat : Nat) : Int) := by rw [rangeSize_one]; split <;> omega
    rw [e1]
    simpa using Heap.get?_push_size s.heap (o := { cls := .type "range_iterator", data := .fields #[rawInt 0, rawInt (n.toNat : Int), rawInt 1] }) rfl
  | str x t z =>
    cases e
    cases ha : x.cps.all (· < 128)
    · exact wpAny_pyIter_wide ha (k _ (Heap.get?_push_size _ rfl) (.str rfl (.inr rfl) ⟨_, Heap.get?_push_size _ rfl, rfl, rfl⟩))
    · exact wpAny_pyIter_ascii ha (k _ (Heap.get?_push_size _ rfl) (.str rfl (.inl rfl) ⟨_, Heap.get?_push_size _ rfl, rfl, rfl⟩))
  | _ => cases e

/- one turn's item -/
theorem iter_item (R : Rel cx H ρ s) (x : ItOk cx xs I i ρ s.heap src) (ck : chk src xs H = true) {m : Val} (hm : xs[i]? = some m) {Q : Option Value → Shared → Prop} {E : Value → Shared → Prop}
    (k : ∀ v h' tk, Heap.SameBut I s.heap h' → (∃ o, h'.get? I = some o) → (∀ st : Step ρ s.heap ρ h', VR cx ρ h' m v ∧ ItOk cx xs I (i + 1) ρ h' src) → Q (some v) { s with heap := h', toks := tk }) :
    wpAny (model cx.prog cx.w) A (pyNext (.ref I)) Q E s := by
  cases x with
  | @list l p hp hi =>
    simp only [chk] at ck
    split at ck
    · rename_i ys hl
      have := sames_eq _ _ ck
      subst this
      obtain ⟨vs, n, _, g, r, z⟩ := R.listAt hl hp
      obtain ⟨v, ev, vr⟩ := r.get hm
      exact wpAny_pyNext_list_item (items := vs.toArray) hi ⟨_, g, rfl, n, rfl⟩ (by simpa using ev) fun h' hi' hs => k v h' s.toks hs (by obtain ⟨o, e, _⟩ := hi'; exact ⟨o, e⟩) fun st => ⟨vr.step st, .list hp hi'⟩
    · cases ck
  | @tup a vs n g no r hi =>
    obtain ⟨v, ev, vr⟩ := r.get hm
    refine wpAny_pyNext_tuple_item (items := vs.toArray) hi ⟨_, g, rfl, n, rfl⟩ (by simpa using ev) fun h' hi' hs => k v h' s.toks hs (by obtain ⟨o, e, _⟩ := hi'; exact ⟨o, e⟩) fun st => ⟨vr.step st, .tup (st.keepT _ _ g (.inl ⟨rfl, _, _, rfl⟩) no).1 no (r.step st) hi'⟩
  | @script a vs n g r hi =>
    obtain ⟨v, ev, vr⟩ := r.get hm
    exact wpAny_pyNext_list_item (items := vs.toArray) hi ⟨_, R.base _ _ g, rfl, n, rfl⟩ (by simpa using ev) fun h' hi' hs => k v h' s.toks hs (by obtain ⟨o, e, _⟩ := hi'; exact ⟨o, e⟩) fun st => ⟨vr.step st, .script g (r.step st) hi'⟩
  | @rng n e hi =>
    subst e
    have lt : i < n.toNat := by
      have := (List.getElem?_eq_some_iff.mp hm).1
      simpa using this
    have hm' : m = .int (i : Int) := by
      rw [List.getElem?_map, List.getElem?_range lt] at hm
      simpa using hm.symm
    subst hm'
    refine wpAny_pyNext_range_item hi (by omega) fun h' hi' hs => k _ h' _ hs ⟨_, hi'⟩ fun st => ⟨.int _ _, .rng rfl ?_⟩
    have e1 : ((i + 1 : Nat) : Int) = (i : Int) + 1 := by omega
    have e2 : ((n.toNat : Int) - ((i + 1 : Nat) : Int)) = (n.toNat : Int) - (i : Int) - 1 := by omega
    rw [e1, ← e1, e2]
    exact hi'
  | @str x t ty e ht hs =>
    subst e
    rw [List.getElem?_map] at hm
    cases hc : x.cps.toList[i]? with
    | none => rw [hc] at hm; cases hm
    | some c =>
      rw [hc] at hm
      simp at hm
      subst hm
      have hc' : x.cps[i]? = some c := by simpa using hc
      have z1 : (⟨#[c]⟩ : Str).length ≤ sizeLine := by show 1 ≤ sizeLine; decide
      rcases ht with rfl | rfl
      · exact wpAny_pyNext_ascii_item hs hc' fun h' hi' hsb => k _ h' _ hsb (by obtain ⟨o, e, _⟩ := hi'; exact ⟨o, e⟩) fun st => ⟨.str _ _ z1, .str rfl (.inl rfl) hi'⟩
      · exact wpAny_pyNext_wide_item hs hc' fun h' hi' hsb => k _ h' _ hsb (by obtain ⟨o, e, _⟩ := hi'; exact ⟨o, e⟩) fun st => ⟨.str _ _ z1, .str rfl (.inr rfl) hi'⟩

/- the end -/
theorem iter_end (hh : A.handled = none) (R : Rel cx H ρ s) (x : ItOk cx xs I i ρ s.heap src) (ck : chk src xs H = true) (hm : xs[i]? = none) {Q : Option Value → Shared → Prop} {E : Value → Shared → Prop}
    (k : ∀ h' tk, Heap.ExtBut I s.heap h' → Q none { s with heap := h', toks := tk }) : wpAny (model cx.prog cx.w) A (pyNext (.ref I)) Q E s := by
  cases x with
  | @list l p hp hi =>
    simp only [chk] at ck
    split at ck
    · rename_i ys hl
      have := sames_eq _ _ ck
      subst this
      obtain ⟨vs, n, _, g, r, z⟩ := R.listAt hl hp
      have len := r.length
      refine wpAny_pyNext_list_end (items := vs.toArray) hh hi ⟨_, g, rfl, n, rfl⟩ ?_ fun h' he => k h' s.toks he
      rw [List.getElem?_eq_none_iff] at hm
      simp; omega
    · cases ck
  | @tup a vs n g no r hi =>
    have len := r.length
    refine wpAny_pyNext_tuple_end (items := vs.toArray) hh hi ⟨_, g, rfl, n, rfl⟩ ?_ fun h' he => k h' s.toks he
    rw [List.getElem?_eq_none_iff] at hm
    simp; omega
  | @script a vs n g r hi =>
    have len := r.length
    refine wpAny_pyNext_list_end (items := vs.toArray) hh hi ⟨_, R.base _ _ g, rfl, n, rfl⟩ ?_ fun h' he => k h' s.toks he
    rw [List.getElem?_eq_none_iff] at hm
    simp; omega
  | @rng n e hi =>
    subst e
    rw [List.getElem?_eq_none_iff] at hm
    simp at hm
    exact wpAny_pyNext_range_end hh hi (by omega) fun h' he => k h' s.toks he
  | @str x t ty e ht hs =>
    subst e
    rw [List.getElem?_eq_none_iff] at hm
    simp at hm
    have hn : x.cps[i]? = none := by simp; omega
    rcases ht with rfl | rfl
    · exact wpAny_pyNext_ascii_end hh hs hn fun h' he => k h' s.toks he
    · exact wpAny_pyNext_wide_end hh hs hn fun h' he => k h' s.toks he
end
end Mine

-- part MBool
namespace Mine
open PySem

theorem bnd_assoc {α β γ : Type} (m : M α) (f : α → M β) (g : β → M γ) : (m.bnd f).bnd g = m.bnd fun x => (f x).bnd g := by
  funext H
  unfold M.bnd
  cases m H <;> rfl
section
variable {α β : Type} {cx : Cx} {A : Around} {P : Amb} {t : Sem α} {m : M β} {V : β → α → Amb}
theorem Sim.relse {vs keep : List Value} {k : Unit → Sem α} (x : Sim cx A P (k ()) m V) : Sim cx A P (release vs keep >>= k) m V := x.pre fun _ _ _ h => wpAny_bind (wpAny_release h)
theorem Sim.oper {t : Sem Value} {V : β → Value → Amb} {vs : List Value} (x : Sim cx A P t m V) : Sim cx A P (operate vs t) m V := x.pre fun _ _ _ h => fun Γ p hΓ => by
  rw [Sem.wp_operate]; exact h Γ p hΓ
theorem Sim.of_eq {t' : Sem α} (e : t' = t) (x : Sim cx A P t m V) : Sim cx A P t' m V := e ▸ x
theorem Sim.of_m {m' : M β} (e : m' = m) (x : Sim cx A P t m V) : Sim cx A P t m' V := e ▸ x

/- what is known of a condition -/
noncomputable abbrev BV : Bool → Bool → Amb := fun b b' => Amb.prop (b' = b)
end

section
variable {cx : Cx} {A : Around} {P : Amb} {env : Env} {Φ : Funs} {Γ : Env'}

structure EOk (cx : Cx) (A : Around) (P : Amb) (Φ : Funs) (env : Env) (Γ : Env') (m : ME) (e : Expr) : Prop where
  val : Sim cx A P (eval e env) (evalE cx.T Φ m Γ) (Amb.vr cx)
  tru : Sim cx A P (isTrue e env (eval e env)) ((evalE cx.T Φ m Γ).bnd truth) BV

theorem sim_truthyA {a : Val} {v : Value} : Sim cx A (P.and (Amb.vr cx a v)) (truthy v) (truth a) BV := sim_truthy fun _ _ p => p.2

theorem EOk.of {m : ME} {e : Expr} (x : Sim cx A P (eval e env) (evalE cx.T Φ m Γ) (Amb.vr cx)) (h : isTrue e env (eval e env) = (do let v ← eval e env; standAt e.pos; holding [v] (truthy v))) : EOk cx A P Φ env Γ m e :=
  ⟨x, Sim.of_eq h (x.bind fun b a => Sim.stand (Sim.holding sim_truthyA))⟩

theorem Sim.and1 {α β : Type} {t : Sem α} {m : M β} {V : β → α → Amb} {Q : Amb} (x : Sim cx A P t m V) : Sim cx A (P.and Q) t m V := x.weak fun _ _ p => p.1

theorem eok_bin {op : BOp} {o : Operator} {a b : ME} {l r : Expr} {pos : Pos} (ho : opOk op o = true) (x : EOk cx A P Φ env Γ a l) (y : EOk cx A P Φ env Γ b r) : EOk cx A P Φ env Γ (.bin op a b) (.BinOp l o r pos) := by
  refine EOk.of ?_ rfl
  rw [arm_eval_BinOp, evalE]
  exact x.val.bind fun x1 v => (Sim.holding y.val.and1).bind fun y1 w => Sim.stand (Sim.oper (sim_bin ho (fun _ _ p => p.1.2) fun _ _ p => p.2))
theorem eok_neg {a : ME} {l : Expr} {pos : Pos} (x : EOk cx A P Φ env Γ a l) : EOk cx A P Φ env Γ (.neg a) (.UnaryOp .USub l pos) := by
  refine EOk.of ?_ rfl
  rw [arm_eval_UnaryOp, evalE]
  exact x.val.bind fun x1 v => Sim.stand (Sim.holding (sim_neg fun _ _ p => p.2))
theorem eok_not {a : ME} {l : Expr} {pos : Pos} (x : EOk cx A P Φ env Γ a l) : EOk cx A P Φ env Γ (.not a) (.UnaryOp .Not l pos) := by
  refine ⟨?_, ?_⟩
  · rw [arm_eval_UnaryOp, evalE]
    exact x.val.bind fun x1 v => Sim.stand (Sim.holding (sim_not fun _ _ p => p.2))
  · rw [arm_isTrue_UnaryOp, evalE]
    refine Sim.of_m (m := ((evalE cx.T Φ a Γ).bnd truth).bnd fun b => M.ret (!b)) ?_ (x.tru.bind fun b b' => Sim.ret fun ρ h p => ?_)
    · rw [bnd_assoc, bnd_assoc]
      congr 1; funext x1
      rw [bnd_assoc]
      congr 1
    · have : b' = b := p.2
      show (!b') = !b
      rw [this]

theorem bnd_ret {α : Type} (m : M α) : (m.bnd fun b => M.ret b) = m := by
  funext H
  unfold M.bnd
  cases m H <;> rfl

/- the rest of a chain of `and`s -/
noncomputable def EOks (cx : Cx) (A : Around) (P : Amb) (Φ : Funs) (env : Env) (Γ : Env') (op : BoolOp) (pos : Pos) (m : ME) (ys : List Expr) : Prop :=
  Sim cx A P (boolOp pos op (evalEach ys env)) (evalE cx.T Φ m Γ) (Amb.vr cx) ∧ Sim cx A P (allTrue op ys env) ((evalE cx.T Φ m Γ).bnd truth) BV
theorem EOks.one {op : BoolOp} {pos : Pos} {m : ME} {y : Expr} (x : EOk cx A P Φ env Γ m y) : EOks cx A P Φ env Γ op pos m [y] := by
  refine ⟨x.val, ?_⟩
  rw [arm_allTrue_cons]
  refine Sim.of_m (bnd_ret _).symm (x.tru.bind fun b b' => ?_)
  intro H ρ s R p
  have e : b' = b := p.2
  subst e
  cases op <;> cases b' <;> exact wpAny_pure ⟨ρ, Full.refl _ _, R, rfl⟩
theorem EOks.more {op : BoolOp} {pos : Pos} {m : ME} {y : Expr} {rest : List Expr} (x : EOk cx A P Φ env Γ m (.BoolOp op (y :: rest) pos)) : EOks cx A P Φ env Γ op pos m (y :: rest) := ⟨x.val, x.tru⟩

theorem sim_truthyV {a : Val} {v : Value} : Sim cx A (P.and (Amb.vr cx a v)) (truthy v) (truth a) (fun b b' => Amb.prop (b' = b ∧ v = .bool b)) := by
  intro H ρ s R p
  have x : VR cx ρ s.heap a v := p.2
  cases x with
  | bool b => exact simAt_pure R fun Q E k => wpAny_truthy_bool (k _ s.toks ⟨rfl, rfl⟩)
  | _ => trivial

theorem eok_and {a b : ME} {x y : Expr} {rest : List Expr} {pos : Pos} (hx : EOk cx A P Φ env Γ a x) (hy : EOks cx A P Φ env Γ .And pos b (y :: rest)) : EOk cx A P Φ env Γ (.and a b) (.BoolOp .And (x :: y :: rest) pos) := by
  refine ⟨?_, ?_⟩
  · rw [arm_eval_BoolOp, evalE]
    refine hx.val.bind (f := fun v => do
      standAt pos
      let t ← holding [v] (truthy v)
      match BoolOp.And, t with
      | .And, false | .Or, true => pure v
      | _, _ => boolOp pos .And (evalEach (y :: rest) env)) fun x1 v => Sim.stand ((Sim.holding sim_truthyV).bind fun b b' => ?_)
    intro H ρ s R p
    obtain ⟨e1, e2⟩ : b' = b ∧ v = .bool b := p.2
    subst e1 e2
    cases b' with
    | true => exact hy.1 H ρ s R p.1.1
    | false => exact wpAny_pure ⟨ρ, Full.refl _ _, R, .bool _⟩
  · rw [arm_isTrue_BoolOp, arm_allTrue_cons, evalE]
    refine Sim.of_m (m := ((evalE cx.T Φ a Γ).bnd truth).bnd fun t => match t with
      | true => (evalE cx.T Φ b Γ).bnd truth
      | false => M.ret false) ?_ (hx.tru.bind fun b b' => ?_)
    · rw [bnd_assoc, bnd_assoc]
      congr 1; funext x1
      rw [bnd_assoc]
      congr 1; funext t
      cases t <;> rfl
    · intro H ρ s R p
      have e : b' = b := p.2
      subst e
      cases b' with
      | true => exact hy.2 H ρ s R p.1
      | false => exact wpAny_pure ⟨ρ, Full.refl _ _, R, rfl⟩
theorem eok_or {a b : ME} {x y : Expr} {rest : List Expr} {pos : Pos} (hx : EOk cx A P Φ env Γ a x) (hy : EOks cx A P Φ env Γ .Or pos b (y :: rest)) : EOk cx A P Φ env Γ (.or a b) (.BoolOp .Or (x :: y :: rest) pos) := by
  refine ⟨?_, ?_⟩
  · rw [arm_eval_BoolOp, evalE]
    refine hx.val.bind (f := fun v => do
      standAt pos
      let t ← holding [v] (truthy v)
      match BoolOp.Or, t with
      | .And, false | .Or, true => pure v
      | _, _ => boolOp pos .Or (evalEach (y :: rest) env)) fun x1 v => Sim.stand ((Sim.holding sim_truthyV).bind fun b b' => ?_)
    intro H ρ s R p
    obtain ⟨e1, e2⟩ : b' = b ∧ v = .bool b := p.2
    subst e1 e2
    cases b' with
    | false => exact hy.1 H ρ s R p.1.1
    | true => exact wpAny_pure ⟨ρ, Full.refl _ _, R, .bool _⟩
  · rw [arm_isTrue_BoolOp, arm_allTrue_cons, evalE]
    refine Sim.of_m (m := ((evalE cx.T Φ a Γ).bnd truth).bnd fun t => match t with
      | true => M.ret true
      | false => (evalE cx.T Φ b Γ).bnd truth) ?_ (hx.tru.bind fun b b' => ?_)
    · rw [bnd_assoc, bnd_assoc]
      congr 1; funext x1
      rw [bnd_assoc]
      congr 1; funext t
      cases t <;> rfl
    · intro H ρ s R p
      have e : b' = b := p.2
      subst e
      cases b' with
      | false => exact hy.2 H ρ s R p.1
      | true => exact wpAny_pure ⟨ρ, Full.refl _ _, R, rfl⟩

/-! ## comparisons -/
theorem notSet_marks {r : Expr} (h : notSet r = true) (op : CmpOp) : behindInMarks op r = false := by
  cases r <;> first | rfl | cases h
theorem eok_cmp (hu : A.units + 100 < cLine) {op : COp} {a b : ME} {l r : Expr} {pos : Pos} (hn : notSet r = true) (x : EOk cx A P Φ env Γ a l) (y : EOk cx A P Φ env Γ b r) : EOk cx A P Φ env Γ (.cmp op a b) (.Compare l [cmOp op] [r] pos) := by
  have V : ∀ (x1 y1 : Val) (v w : Value), Sim cx A ((P.and (Amb.vr cx x1 v)).and (Amb.vr cx y1 w)) (operate [v, w] (compareOp (cmOp op) v w)) ((M.look (cmpV op x1 y1)).bnd fun r => M.ret (Val.bool r)) (Amb.vr cx) :=
    fun x1 y1 v w => Sim.oper (sim_cmp hu (fun _ _ p => p.1.2) fun _ _ p => p.2)
  refine ⟨?_, ?_⟩
  · rw [eval_Compare1, markedBehindIn_of_false (notSet_marks hn _), evalE]
    exact x.val.bind fun x1 v => (Sim.holding y.val.and1).bind fun y1 w => Sim.stand (V x1 y1 v w)
  · rw [isTrue_Compare1, markedBehindIn_of_false (notSet_marks hn _), evalE]
    rw [bnd_assoc]
    refine x.val.bind fun x1 v => ?_
    rw [bnd_assoc]
    exact (Sim.holding y.val.and1).bind fun y1 w => Sim.stand ((V x1 y1 v w).bind fun r c => Sim.holding sim_truthyA)
theorem eok_cmp2 (hu : A.units + 100 < cLine) {op1 op2 : COp} {a b c : ME} {l m r : Expr} {pos : Pos} (hn : notSet r = true) (x : EOk cx A P Φ env Γ a l) (y : EOk cx A P Φ env Γ b m) (z : EOk cx A P Φ env Γ c r) : EOk cx A P Φ env Γ (.cmp2 op1 op2 a b c) (.Compare l [cmOp op1, cmOp op2] [m, r] pos) := by
  have V1 : ∀ (x1 y1 : Val) (v w : Value), Sim cx A ((P.and (Amb.vr cx x1 v)).and (Amb.vr cx y1 w)) (holding [v, w] (compareOp (cmOp op1) v w)) ((M.look (cmpV op1 x1 y1)).bnd fun r => M.ret (Val.bool r)) (Amb.vr cx) :=
    fun x1 y1 v w => Sim.holding (sim_cmp hu (fun _ _ p => p.1.2) fun _ _ p => p.2)
  have e0 : ∀ (x1 y1 : Val) (k : Bool → M Val), ((M.look (cmpV op1 x1 y1)).bnd k) = (((M.look (cmpV op1 x1 y1)).bnd fun r => M.ret (Val.bool r)).bnd fun v => (truth v).bnd k) := fun x1 y1 k => by
    rw [bnd_assoc]; rfl
  refine ⟨?_, ?_⟩
  · rw [arm_eval_Compare, evalE]
    have em : markedEach [cmOp op1, cmOp op2] [m, r] (evalEach [m, r] env) = [eval m env, eval r env] := by
      show [eval m env, markedBehindIn (cmOp op2) r (eval r env)] = _
      rw [markedBehindIn_of_false (notSet_marks hn _)]
    rw [em]
    refine x.val.bind (f := fun left => do
      let rv ← holding [left] (eval m env)
      standAt pos
      let c ← holding [left, rv] (compareOp (cmOp op1) left rv)
      release [left, rv] [c]
      if ← holding [c, rv] (truthy c) then compareChain pos rv [cmOp op2] [eval r env] else pure c) fun x1 v => ?_
    refine (Sim.holding y.val.and1).bind fun y1 w => Sim.stand ?_
    rw [e0]
    refine (V1 x1 y1 v w).bind fun r1 c1 => Sim.relse ?_
    refine (Sim.holding sim_truthyV).bind fun t t' => ?_
    intro H ρ s R p
    obtain ⟨e1, e2⟩ : t' = t ∧ c1 = .bool t := p.2
    subst e1 e2
    cases t' with
    | false => exact wpAny_pure ⟨ρ, Full.refl _ _, R, .bool _⟩
    | true =>
      have W : Sim cx A (P.and (Amb.vr cx y1 w)) (compareChain pos w [cmOp op2] [eval r env]) ((evalE cx.T Φ c Γ).bnd fun z => (M.look (cmpV op2 y1 z)).bnd fun r => M.ret (Val.bool r)) (Amb.vr cx) :=
        (Sim.holding z.val.and1).bind fun z1 u => Sim.stand (Sim.oper (sim_cmp hu (fun _ _ p => p.1.2) fun _ _ p => p.2))
      exact W H ρ s R ⟨p.1.1.1.1, p.1.1.2⟩
  · rw [arm_isTrue_Compare, evalE]
    have em : markedEach [cmOp op1, cmOp op2] [m, r] (evalEach [m, r] env) = [eval m env, eval r env] := by
      show [eval m env, markedBehindIn (cmOp op2) r (eval r env)] = _
      rw [markedBehindIn_of_false (notSet_marks hn _)]
    rw [em, bnd_assoc]
    refine x.val.bind (f := fun left => do
      let rv ← holding [left] (eval m env)
      standAt pos
      let c ← holding [left, rv] (compareOp (cmOp op1) left rv)
      release [left, rv] [c]
      if ← holding [c, rv] (truthy c) then testChain pos rv [cmOp op2] [eval r env] else pure false) fun x1 v => ?_
    rw [bnd_assoc]
    refine (Sim.holding y.val.and1).bind fun y1 w => Sim.stand ?_
    rw [e0, bnd_assoc]
    refine (V1 x1 y1 v w).bind fun r1 c1 => Sim.relse ?_
    rw [bnd_assoc]
    refine (Sim.holding sim_truthyV).bind fun t t' => ?_
    intro H ρ s R p
    obtain ⟨e1, e2⟩ : t' = t ∧ c1 = .bool t := p.2
    subst e1 e2
    cases t' with
    | false => exact wpAny_pure ⟨ρ, Full.refl _ _, R, rfl⟩
    | true =>
      have W : Sim cx A (P.and (Amb.vr cx y1 w)) (testChain pos w [cmOp op2] [eval r env]) (((evalE cx.T Φ c Γ).bnd fun z => (M.look (cmpV op2 y1 z)).bnd fun r => M.ret (Val.bool r)).bnd truth) BV := by
        rw [bnd_assoc]
        have V2 : ∀ (z1 : Val) (u : Value), Sim cx A ((P.and (Amb.vr cx y1 w)).and (Amb.vr cx z1 u)) (operate [w, u] (compareOp (cmOp op2) w u)) ((M.look (cmpV op2 y1 z1)).bnd fun r => M.ret (Val.bool r)) (Amb.vr cx) :=
          fun z1 u => Sim.oper (sim_cmp hu (fun _ _ p => p.1.2) fun _ _ p => p.2)
        exact (Sim.holding z.val.and1).bind fun z1 u => Sim.stand ((V2 z1 u).bind fun _ _ => Sim.holding sim_truthyA)
      exact W H ρ s R ⟨p.1.1.1.1, p.1.1.2⟩
end
end Mine

-- part MCall
namespace Mine
open PySem

theorem look_some {α : Type} {f : Hp → Option α} {H : Hp} {a : α} (h : f H = some a) : M.look f H = .ok a H := by unfold M.look; rw [h]
theorem look_none {α : Type} {f : Hp → Option α} {H : Hp} (h : f H = none) : M.look f H = .bad := by unfold M.look; rw [h]
theorem blt_mem (f : BF) (h : f ≠ .sortedSet) : ((bfName f).1, bfVal f) ∈ bltTab := by
  unfold bltTab
  cases f <;> first
    | exact absurd rfl h
    | repeat (first | exact List.Mem.head _ | apply List.Mem.tail)
theorem ty_mem (t : Ty) (h : ∀ c, t ≠ .cls c) : (tyName t, tyVal t) ∈ bltTab := by
  unfold bltTab
  cases t <;> first
    | exact absurd rfl (h _)
    | repeat (first | exact List.Mem.head _ | apply List.Mem.tail)
theorem isi_mem : (("isinstance" : Str), Value.builtin "isinstance") ∈ bltTab := by
  unfold bltTab
  repeat (first | exact List.Mem.head _ | apply List.Mem.tail)

section
variable {cx : Cx} {N : Names} {A : Around} {P : Amb} {env : Env} {sc : Scope} {ns : List (Option Str)} {Γ : Env'} {Φ : Funs} {l : List Env}

theorem len2 {α : Type} {xs : List α} (h : xs.length = 2) : ∃ a b, xs = [a, b] := by
  match xs, h with
  | [a, b], _ => exact ⟨a, b, rfl⟩
/- the built-in functions -/
theorem sim_bfcall (hh : A.handled = none) (f : BF) (hf : f ≠ .sortedSet) {ms : List Val} {vs : List Value} (hl : ms.length = (bfName f).2) : Sim cx A (Amb.vrs cx ms vs) (call (bfVal f) vs) (bfV f ms) (Amb.vr cx) := by
  have one : ∀ {t : Sem Value} {m : Val → M Val}, ms.length = 1 → (∀ (a : Val) (v : Value), ms = [a] → vs = [v] → Sim cx A (Amb.vr cx a v) t (bfV f ms) (Amb.vr cx)) → Sim cx A (Amb.vrs cx ms vs) t (bfV f ms) (Amb.vr cx) := by
    intro t m h1 k H ρ s R p
    have p' : VRs cx ρ s.heap ms vs := p
    have hv := p'.length
    obtain ⟨a, rfl⟩ := List.length_eq_one_iff.mp h1
    obtain ⟨v, rfl, x⟩ := p'.one_inv
    exact k a v rfl rfl H ρ s R x
  have two : ∀ {t : Sem Value} {m : Val → M Val}, ms.length = 2 → (∀ (a b : Val) (v w : Value), ms = [a, b] → vs = [v, w] → Sim cx A ((Amb.vr cx a v).and (Amb.vr cx b w)) t (bfV f ms) (Amb.vr cx)) → Sim cx A (Amb.vrs cx ms vs) t (bfV f ms) (Amb.vr cx) := by
    intro t m h1 k H ρ s R p
    have p' : VRs cx ρ s.heap ms vs := p
    have hv := p'.length
    obtain ⟨a, b, rfl⟩ := len2 h1
    obtain ⟨v, w, rfl, x, y⟩ := p'.two_inv
    exact k a b v w rfl rfl H ρ s R ⟨x, y⟩
  cases f with
  | len => exact one (m := fun _ => .bad) hl fun a v e1 e2 => by subst e1 e2; exact sim_len fun _ _ p => p
  | range => exact one (m := fun _ => .bad) hl fun a v e1 e2 => by subst e1 e2; exact sim_range fun _ _ p => p
  | int => exact one (m := fun _ => .bad) hl fun a v e1 e2 => by subst e1 e2; exact sim_intB fun _ _ p => p
  | sortedSet => exact absurd rfl hf

theorem eok_bf (B : Base cx N) (hh : A.handled = none) {f : BF} {x : Str} {xs : List Expr} {es : MEs} {np pos : Pos} (hg : isGlob sc x = true) (hx : (bfName f).1 = x) (hl : (bfName f).2 = xs.length) (hes : ckEs N sc ns es xs = true)
    (y : Sim cx A ((Amb.env cx env sc ns Γ).and (Amb.frames cx l)) (spliced (xs.map fun e => (false, eval e env))) (evalEs cx.T Φ es Γ) (Amb.vrs cx)) :
    EOk cx A ((Amb.env cx env sc ns Γ).and (Amb.frames cx l)) Φ env Γ (.bf f es) (.Call (.Name x np) xs [] pos) := by
  refine EOk.of ?_ rfl
  obtain ⟨mg, mb, ng, nb, _, _, _, q⟩ := B.ns
  intro H ρ s R p
  by_cases hf : f = .sortedSet
  · subst hf
    rw [evalE]
    show SimAt cx A (M.bnd _ (fun vs => bfV .sortedSet vs) H) _ _ ρ s
    have hx' : xs = [] := List.eq_nil_of_length_eq_zero hl.symm
    subst hx'
    obtain rfl := ckEs_nil hes
    rw [evalEs]; trivial
  · have q12 : mg (bfName f).1 = none ∧ mb (bfName f).1 = some (bfVal f) := q _ (blt_mem f hf)
    obtain ⟨q1, q2⟩ := q12
    rw [hx] at q1 q2
    rw [evalE]
    refine SimK.mono (simK_args (f := bfVal f) (K := fun vs Q E s => wpAny (model cx.prog cx.w) A (call (bfVal f) vs) Q E s) (fun e => ckEs_nil (e ▸ hes)) R (y H ρ s R p) ?_ fun _ => monoK_wp _) ?_
    · intro ms vs H1 ρ1 s1 e1 F1 R1 vrs
      exact sim_bfcall hh f hf (by rw [evalEs_length hes e1, hl]) H1 ρ1 s1 R1 vrs
    · intro Q E h
      refine wpAny_Call_ofName (wp_glob R p.1.st hg ng nb (v := bfVal f) (.inr ⟨q1, q2⟩) ?_)
      rw [plainArgs_trees pos (ckEs_plain hes)]
      have hq : (∃ id, bfVal f = .builtin id) ∨ ∃ T, bfVal f = .type T := by
        cases f <;> first | exact absurd rfl hf | exact .inl ⟨_, rfl⟩ | exact .inr ⟨_, rfl⟩
      generalize bfVal f = bv at h hq ⊢
      rcases hq with ⟨id, rfl⟩ | ⟨T, rfl⟩
      · exact Calls.callWith_builtin (any_false _) (wpAny_mono h (fun a s₁ h₁ => by rw [h₁.1]; exact h₁.2) fun _ _ q => q)
      · exact PyProof.Rows.callWith_type (any_false _) (wpAny_mono h (fun a s₁ h₁ => by rw [h₁.1]; exact h₁.2) fun _ _ q => q)

/- isinstance with a built-in type -/
theorem eok_isi (B : Base cx N) {t : Ty} (ht : ∀ c, t ≠ .cls c) {a : ME} {f y : Str} {x : Expr} {fp yp pos : Pos} (hg : isGlob sc f = true) (hf : f = ("isinstance" : Str)) (hy : isGlob sc y = true) (hty : tyName t = y) (hp : notStar x = true)
    (z : EOk cx A ((Amb.env cx env sc ns Γ).and (Amb.frames cx l)) Φ env Γ a x) :
    EOk cx A ((Amb.env cx env sc ns Γ).and (Amb.frames cx l)) Φ env Γ (.isinst a t) (.Call (.Name f fp) [x, .Name y yp] [] pos) := by
  refine EOk.of ?_ rfl
  obtain ⟨mg, mb, ng, nb, _, _, _, q⟩ := B.ns
  intro H ρ s R p
  have q12 : mg ("isinstance" : Str) = none ∧ mb ("isinstance" : Str) = some (.builtin "isinstance") := q _ isi_mem
  have q34 : mg (tyName t) = none ∧ mb (tyName t) = some (tyVal t) := q _ (ty_mem t ht)
  obtain ⟨q1, q2⟩ := q12
  obtain ⟨q3, q4⟩ := q34
  rw [← hf] at q1 q2
  rw [hty] at q3 q4
  rw [evalE]
  refine SimAt.bindK (K' := fun Q E s => wpAny (model cx.prog cx.w) A (eval (.Call (.Name f fp) [x, .Name y yp] [] pos) env) Q E s) (K := fun v Q E s => wpAny (model cx.prog cx.w) A (eval (.Name y yp) env) (fun w s' => wpAny (model cx.prog cx.w) A (call (.builtin "isinstance") [v, w]) Q E s') E s) (z.val H ρ s R p) ?_ ?_ ?_
  · intro b v H1 ρ1 s1 _ F1 R1 vr
    have e1 := (p.1.full F1).st
    have ht2 : (isinstV cx.T b t) = M.look (fun H => (kdOf H b).map fun k => Val.bool (isKd t k)) := by
      cases t <;> first | rfl | exact absurd rfl (ht _)
    show SimK cx (isinstV cx.T b t H1) _ _ ρ1 s1
    rw [ht2]
    cases ek : kdOf H1 b with
    | none =>
      have : M.look (fun H => (kdOf H b).map fun k => Val.bool (isKd t k)) H1 = .bad := look_none (by show Option.map _ (kdOf H1 b) = none; rw [ek]; rfl)
      rw [this]; trivial
    | some k =>
      have : M.look (fun H => (kdOf H b).map fun k => Val.bool (isKd t k)) H1 = .ok (Val.bool (isKd t k)) H1 := look_some (by show Option.map _ (kdOf H1 b) = _; rw [ek]; rfl)
      rw [this]
      refine wp_glob R1 e1 hy ng nb (v := tyVal t) (.inr ⟨q3, q4⟩) ?_
      exact wp_isi R1 vr ek ht fun tk => ⟨ρ1, Full.refl _ _, R1.toks tk, .bool _⟩
  · exact fun v Q E Q' E' s h k1 k2 => wpAny_mono h (fun _ _ h' => wpAny_mono h' k1 k2) k2
  · intro Q E h
    refine wpAny_Call_ofName (wp_glob R p.1.st hg ng nb (v := .builtin "isinstance") (.inr ⟨q1, q2⟩) ?_)
    have pl : plainArgs env [x, .Name y yp] := ⟨starEach_plain hp, starEach_plain rfl, trivial⟩
    rw [plainArgs_trees pos pl]
    refine Calls.callWith_builtin (any_false _) (Calls.evalArgs_plain (Calls.spliced_cons (wpAny_mono h (fun v s' h' => ?_) fun _ _ q => q)))
    exact Calls.spliced_cons (wpAny_mono h' (fun w s'' h'' => Calls.spliced_nil h'') fun _ _ q => q)

theorem eok_sub (hu : A.units + 100 < cLine) {a i : ME} {v s : Expr} {pos : Pos} (x : EOk cx A P Φ env Γ a v) (y : EOk cx A P Φ env Γ i s) : EOk cx A P Φ env Γ (.sub a i) (.Subscript v s pos) := by
  refine EOk.of ?_ rfl
  intro H ρ st R p
  rw [evalE]
  refine SimAt.bindK (K' := fun Q E s' => wpAny (model cx.prog cx.w) A (eval (.Subscript v s pos) env) Q E s') (K := fun o Q E s' => wpAny (model cx.prog cx.w) A (eval s env) (fun i s'' => wpAny (model cx.prog cx.w) A (PyProof.Rows.subscriptTail v s o i) Q E s'') E s') (x.val H ρ st R p) ?_ ?_ ?_
  · intro b o H1 ρ1 s1 _ F1 R1 vr
    refine SimAt.bindK (K' := fun Q E s' => wpAny (model cx.prog cx.w) A (eval s env) (fun i s'' => wpAny (model cx.prog cx.w) A (PyProof.Rows.subscriptTail v s o i) Q E s'') E s') (K := fun i Q E s' => wpAny (model cx.prog cx.w) A (PyProof.Rows.subscriptTail v s o i) Q E s') (y.val H1 ρ1 s1 R1 (P.st _ _ _ _ p F1)) ?_ (fun _ => monoK_wp _) fun Q E h => h
    intro b2 i2 H2 ρ2 s2 _ F2 R2 vr2
    exact sim_subTail (P := (Amb.vr cx b o).and (Amb.vr cx b2 i2)) hu (fun _ _ p => p.1) (fun _ _ p => p.2) H2 ρ2 s2 R2 ⟨vr.step F2.step, vr2⟩
  · exact fun v Q E Q' E' s h k1 k2 => wpAny_mono h (fun _ _ h' => wpAny_mono h' k1 k2) k2
  · exact fun Q E h => PyProof.Rows.Subscript_ h
end
end Mine

-- part MComp
namespace Mine
open PySem

/-! ## the closure -/
noncomputable def cloOf (env : Env) : List (Str × NameKind) → List (Str × Addr) → List (Str × Addr)
  | [], acc => acc
  | (n, k) :: r, acc => if k == .free then cloOf env r ((n, (env.cells.lookup n).getD 0) :: acc) else cloOf env r acc
theorem closureFor_eq {scope : Scope} {env : Env} (h : ∀ p ∈ scope.names, p.2 = .free → ∃ c, env.cells.lookup p.1 = some c) : closureFor scope env = pure (cloOf env scope.names []) := by
  have gen : ∀ (names : List (Str × NameKind)) (acc : List (Str × Addr)), (∀ p ∈ names, p.2 = .free → ∃ c, env.cells.lookup p.1 = some c) →
      (forIn names acc fun x cs => if (x.2 == .free) = true then (do let c ← cellOf env x.1; pure (ForInStep.yield ((x.1, c) :: cs))) else pure (ForInStep.yield cs) : Sem _) = pure (cloOf env names acc) := by
    intro names
    induction names with
    | nil => intro acc _; rfl
    | cons p r ih =>
      intro acc hp
      obtain ⟨n, k⟩ := p
      rw [List.forIn_cons]
      unfold cloOf
      by_cases q : (k == .free) = true
      · obtain ⟨c, hc⟩ := hp (n, k) (.head _) (by simpa using q)
        have hc' : env.cells.lookup n = some c := hc
        have e : cellOf env n = pure c := by unfold cellOf; rw [hc']
        simp only [q, if_true, e, pure_bind, hc', Option.getD_some]
        exact ih _ fun p hp' => hp p (.tail _ hp')
      · simp only [q, if_false, pure_bind]
        exact ih _ fun p hp' => hp p (.tail _ hp')
  unfold closureFor
  have := gen scope.names [] h
  simp only [bind_pure] at this ⊢
  rw [← this]
theorem clo_val {env : Env} : ∀ {names : List (Str × NameKind)} {acc : List (Str × Addr)} {y : Str} {c : Addr}, (∀ z d, acc.lookup z = some d → d = (env.cells.lookup z).getD 0) → (cloOf env names acc).lookup y = some c → c = (env.cells.lookup y).getD 0
  | [], acc, y, c, ha, h => ha y c h
  | (n, k) :: r, acc, y, c, ha, h => by
    unfold cloOf at h
    split at h
    · refine clo_val (fun z d hd => ?_) h
      rw [List.lookup_cons] at hd
      split at hd
      · rename_i e
        have : z = n := by simpa using e
        subst this
        cases hd; rfl
      · exact ha z d hd
    · exact clo_val ha h
theorem clo_has {env : Env} : ∀ {names : List (Str × NameKind)} {acc : List (Str × Addr)} {y : Str}, ((y, NameKind.free) ∈ names ∨ (acc.lookup y).isSome = true) → ((cloOf env names acc).lookup y).isSome = true
  | [], _, _, h => by
    rcases h with h | h
    · cases h
    · exact h
  | (n, k) :: r, acc, y, h => by
    unfold cloOf
    split
    · rename_i hk
      refine clo_has ?_
      rcases h with h | h
      · rcases List.mem_cons.mp h with e | h
        · cases e; right; simp
        · exact .inl h
      · right
        rw [List.lookup_cons]
        split
        · rfl
        · exact h
    · rename_i hk
      refine clo_has ?_
      rcases h with h | h
      · rcases List.mem_cons.mp h with e | h
        · cases e; simp at hk
        · exact .inl h
      · exact .inr h
theorem clo_mem {env : Env} : ∀ {names : List (Str × NameKind)} {acc : List (Str × Addr)} {y : Str} {c : Addr}, (cloOf env names acc).lookup y = some c → (y, NameKind.free) ∈ names ∨ (acc.lookup y).isSome = true
  | [], _, _, _, h => by right; have h' : List.lookup _ _ = _ := h; unfold cloOf at h'; rw [h']; rfl
  | (n, k) :: r, acc, y, c, h => by
    unfold cloOf at h
    split at h
    · rename_i hk
      rcases clo_mem h with h | h
      · exact .inl (.tail _ h)
      · rw [List.lookup_cons] at h
        split at h
        · rename_i e
          have : y = n := by simpa using e
          subst this
          have : k = .free := by simpa using hk
          subst this
          exact .inl (.head _)
        · exact .inr h
    · rcases clo_mem h with h | h
      · exact .inl (.tail _ h)
      · exact .inr h
theorem cellsFrom_append : ∀ (names : List (Str × NameKind)) (n : Nat) (acc : List (Str × Addr)), cellsFrom n names acc = cellsFrom n names [] ++ acc
  | [], _, _ => rfl
  | (y, k) :: r, n, acc => by
    unfold cellsFrom
    split
    · rw [cellsFrom_append r (n + 1) ((y, n) :: acc), cellsFrom_append r (n + 1) [(y, n)], List.append_assoc]; rfl
    · exact cellsFrom_append r n acc
theorem cellsFrom_mem : ∀ {names : List (Str × NameKind)} {n : Nat} {acc : List (Str × Addr)} {y : Str} {c : Addr}, (y, c) ∈ cellsFrom n names acc → (y, NameKind.cell) ∈ names ∨ (y, c) ∈ acc
  | [], _, _, _, _, h => .inr h
  | (z, k) :: r, n, acc, y, c, h => by
    unfold cellsFrom at h
    split at h
    · rename_i hk
      rcases cellsFrom_mem h with h | h
      · exact .inl (.tail _ h)
      · rcases List.mem_cons.mp h with e | h
        · cases e
          have : k = .cell := by simpa using hk
          subst this
          exact .inl (.head _)
        · exact .inr h
    · rcases cellsFrom_mem h with h | h
      · exact .inl (.tail _ h)
      · exact .inr h
theorem relabel_lookup {env : Env} : ∀ (names : List (Str × NameKind)) (y : Str), (names.map fun (n, k) => if (k == NameKind.free && env.scope.kind == .function && env.kindOf n == some .cell) then (n, NameKind.cell) else (n, k)).lookup y =
    (names.lookup y).map fun k => if (k == NameKind.free && env.scope.kind == .function && env.kindOf y == some .cell) = true then NameKind.cell else k
  | [], _ => rfl
  | (n, k) :: r, y => by
    have ih := @relabel_lookup env r y
    show List.lookup y ((if (k == NameKind.free && env.scope.kind == .function && env.kindOf n == some .cell) = true then (n, NameKind.cell) else (n, k)) :: _) = _
    cases hx : y == n with
    | true =>
      have : y = n := by simpa using hx
      subst this
      by_cases hc : (k == NameKind.free && env.scope.kind == .function && env.kindOf y == some .cell) = true
      · rw [if_pos hc]
        simp only [List.lookup_cons, beq_self_eq_true, Option.map_some]
        rw [if_pos hc]
      · rw [if_neg hc]
        simp only [List.lookup_cons, beq_self_eq_true, Option.map_some]
        rw [if_neg hc]
    | false =>
      by_cases hc : (k == NameKind.free && env.scope.kind == .function && env.kindOf n == some .cell) = true
      · rw [if_pos hc]; simp only [List.lookup_cons, hx]; exact ih
      · rw [if_neg hc]; simp only [List.lookup_cons, hx]; exact ih

/- the comprehension's own frame -/
noncomputable def compEnv (csc : Scope) (env : Env) (L : Addr) : Env :=
  { scope := relabel csc env, locals := L, globals := env.globals, cells := cellsFrom (L + 1) csc.names (cloOf env csc.names []), qual := env.qual, func := none, code := env.code, frame := env.frame, builtins := env.builtins }
noncomputable def compHeap (csc : Scope) (h : Heap) : Heap := pushCells (h.push { cls := .type "dict", data := .dict #[] }) csc.names

theorem wpAny_newCompEnv {M : Model} {A : Around} {E : Value → Shared → Prop} {s : Shared} {env : Env} {csc : Scope} {Q : Env → Shared → Prop} (cl : List (Str × Addr))
    (h : Q (newEnv csc s.heap.objs.size env.globals (cellsFrom (s.heap.objs.size + 1) csc.names cl) env.qual none .none (some env) builtinsNs) { s with heap := compHeap csc s.heap }) :
    wpAny M A (newFunctionEnv csc env.globals cl [] env.qual none .none (some env)) Q E s := by
  simp only [newFunctionEnv, Option.isSome_some, if_true]
  refine wpAny_bind (wpAny_alloc ?_)
  refine wpAny_bind (wpAny_layCells _ (fun name kind cells => by cases hkc : kind == NameKind.cell <;> simp [hkc]) _ _ _ _ ?_)
  rw [show ({ s with heap := s.heap.push { cls := .type "dict", data := .dict #[] } } : Shared).heap.objs.size = s.heap.objs.size + 1 from Heap.size_push ..]
  exact wpAny_bind (wpAny_pure (wpAny_pure h))

section
variable {cx : Cx} {N : Names} {A : Around} {env : Env} {sc csc : Scope} {ns : List (Option Str)} {Γ : Env'} {H : Hp} {ρ : Rho} {s : Shared} {x : Str}

theorem compOk_parts (h : compOk sc csc x = true) : csc.kind = .function ∧ (csc.names.lookup x = some .local ∨ csc.names.lookup x = some .cell) ∧
    (∀ p ∈ csc.names, csc.names.lookup p.1 = some p.2 ∧ (p.2 = .free → sc.names.lookup p.1 = some .cell ∨ sc.names.lookup p.1 = some .free)) := by
  unfold compOk at h
  simp only [Bool.and_eq_true] at h
  obtain ⟨⟨h1, h2⟩, h3⟩ := h
  refine ⟨?_, ?_, fun p hp => ?_⟩
  · split at h1
    · assumption
    · cases h1
  · split at h2
    · left; assumption
    · right; assumption
    · cases h2
  · have h4 := List.all_eq_true.mp h3 p hp
    obtain ⟨y, k⟩ := p
    cases k <;> simp only at h4
    case «local» =>
      split at h4
      · rename_i e; exact ⟨e, fun q => nomatch q⟩
      · cases h4
    case cell =>
      split at h4
      · rename_i e; exact ⟨e, fun q => nomatch q⟩
      · cases h4
    case free =>
      rw [Bool.and_eq_true] at h4
      obtain ⟨h4, h5⟩ := h4
      refine ⟨?_, fun _ => ?_⟩
      · split at h4
        · assumption
        · cases h4
      · split at h5
        · left; assumption
        · right; assumption
        · cases h5
    case globalImplicit =>
      split at h4
      · rename_i e; exact ⟨e, fun q => nomatch q⟩
      · cases h4
    all_goals cases h4

theorem compHeap_keep (csc : Scope) (h : Heap) : ∀ b o, h.get? b = some o → (compHeap csc h).get? b = some o := fun b o e => pushCells_keeps _ _ b o (Heap.get?_push_of_some _ e)

theorem comp_env (R : Rel cx H ρ s) (e0 : EnvOk cx env sc ns Γ ρ s.heap) (hc : compOk sc csc x = true) (hΓ : Γ.length = ns.length) :
    EnvOk cx (compEnv csc env s.heap.objs.size) csc (inner csc ns ++ [some x]) (Γ ++ [none]) ρ (compHeap csc s.heap) ∧
    (∀ q, csc.names.lookup x = some .cell → (compEnv csc env s.heap.objs.size).cells.lookup x = some q → s.heap.get? q = none) := by
  obtain ⟨c1, c2, c3⟩ := compOk_parts hc
  have F : Full ρ s.heap ρ (compHeap csc s.heap) := Full.more (compHeap_keep csc s.heap)
  have lvB : Live cx.h₀ s.heap := fun b o e => ⟨o, R.base b o e⟩
  have ok := cellsFrom_ok csc.names (s.heap.push { cls := .type "dict", data := .dict #[] }) (s.heap.objs.size + 1) [] ⟨fun _ _ hm => (nomatch hm), List.Pairwise.nil⟩ (by rw [Heap.size_push]; exact Nat.le_refl _)
  rw [Heap.size_push] at ok
  have hcells : (compEnv csc env s.heap.objs.size).cells = cellsFrom (s.heap.objs.size + 1) csc.names [] ++ cloOf env csc.names [] := cellsFrom_append _ _ _
  have hlook : ∀ y c, (compEnv csc env s.heap.objs.size).cells.lookup y = some c →
      ((cellsFrom (s.heap.objs.size + 1) csc.names []).lookup y = some c ∧ (compHeap csc s.heap).IsCell c none ∧ s.heap.get? c = none ∧ csc.names.lookup y = some .cell) ∨
      (env.cells.lookup y = some c ∧ csc.names.lookup y = some .free) := by
    intro y c h
    rw [hcells, List.lookup_append] at h
    cases q : (cellsFrom (s.heap.objs.size + 1) csc.names []).lookup y with
    | some d =>
      rw [q] at h
      cases h
      have m := ok.empty y c (mem_of_lookup q)
      refine .inl ⟨rfl, m.1, fresh_le (Nat.le_of_succ_le m.2), ?_⟩
      rcases cellsFrom_mem (mem_of_lookup q) with w | w
      · exact (c3 _ w).1
      · cases w
    | none =>
      rw [q] at h
      have h' : (cloOf env csc.names []).lookup y = some c := h
      have m := clo_mem h'
      have mf : (y, NameKind.free) ∈ csc.names := by
        rcases m with m | m
        · exact m
        · cases m
      obtain ⟨l1, l2⟩ := c3 _ mf
      obtain ⟨d, hd⟩ := e0.st.hasCell y (l2 rfl)
      have v := clo_val (acc := []) (fun z d h => by simp at h) h'
      rw [hd] at v
      exact .inr ⟨by rw [hd, v]; rfl, l1⟩
  have hfree : ∀ y, csc.names.lookup y = some .free → ∃ c, (compEnv csc env s.heap.objs.size).cells.lookup y = some c ∧ env.cells.lookup y = some c := by
    intro y hy
    have := clo_has (env := env) (acc := []) (.inl (mem_of_lookup hy))
    obtain ⟨c, h⟩ := Option.isSome_iff_exists.mp this
    have hn : (cellsFrom (s.heap.objs.size + 1) csc.names []).lookup y = none := by
      cases q : (cellsFrom (s.heap.objs.size + 1) csc.names []).lookup y with
      | none => rfl
      | some d =>
        rcases cellsFrom_mem (mem_of_lookup q) with w | w
        · have := (c3 _ w).1; rw [hy] at this; cases this
        · cases w
    have hl : (compEnv csc env s.heap.objs.size).cells.lookup y = some c := by rw [hcells, List.lookup_append, hn]; exact h
    refine ⟨c, hl, ?_⟩
    rcases hlook y c hl with ⟨_, _, _, w⟩ | ⟨w, _⟩
    · rw [hy] at w; cases w
    · exact w
  have hkind : ∀ y, (compEnv csc env s.heap.objs.size).kindOf y = (csc.names.lookup y).map fun k => if (k == NameKind.free && env.scope.kind == .function && env.kindOf y == some .cell) = true then NameKind.cell else k := fun y => relabel_lookup csc.names y
  have locNs : (compHeap csc s.heap).Ns s.heap.objs.size fun _ => none := (Heap.Ns.new s.heap (.type "dict")).keeps (pushCells_keeps _ _)
  refine ⟨⟨⟨c1, e0.st.glob, e0.st.blt, fun y k hy => ?_, ⟨_, locNs⟩, R.fresh_not (fresh_none _), lvB.none (fresh_none _), fun y c hy => ?_, fun y hy => ?_, fun y z c hy hz => ?_⟩, by unfold inner; rw [List.length_append, List.length_append, List.length_map, hΓ]; rfl, fun i y mv hi hm => ?_⟩, fun q hx hq => ?_⟩
  · rw [hkind, hy]
    cases k
    case free =>
      simp only [Option.map_some, KindOk]
      split
      · exact .inr rfl
      · exact .inl rfl
    all_goals first | rfl | trivial
  · rcases hlook y c hy with ⟨_, w1, w2, _⟩ | ⟨w, _⟩
    · exact ⟨⟨_, w1⟩, R.fresh_not w2, lvB.none w2⟩
    · obtain ⟨⟨v, hv⟩, n, b⟩ := e0.st.cells y c w
      exact ⟨⟨v, IsCell_keep hv (F.data n)⟩, n, b⟩
  · rcases hy with hy | hy
    · rw [hcells, List.lookup_append]
      obtain ⟨c, h⟩ := Option.isSome_iff_exists.mp (cells_has (n := s.heap.objs.size + 1) (acc := []) (.inl (mem_of_lookup hy)))
      exact ⟨c, by rw [h]; rfl⟩
    · obtain ⟨c, h, _⟩ := hfree y hy
      exact ⟨c, h⟩
  · rcases hlook y c hy with ⟨w0, w1, w2, _⟩ | ⟨w, _⟩ <;> rcases hlook z c hz with ⟨u0, u1, u2, _⟩ | ⟨u, _⟩
    · exact name_of_addr ok.apart (mem_of_lookup w0) (mem_of_lookup u0)
    · obtain ⟨⟨v, o, ho, _⟩, _⟩ := e0.st.cells z c u
      rw [w2] at ho; cases ho
    · obtain ⟨⟨v, o, ho, _⟩, _⟩ := e0.st.cells y c w
      rw [u2] at ho; cases ho
    · exact e0.st.apart y z c w u
  · by_cases lt : i < ns.length
    · rw [List.getElem?_append_left (by unfold inner; rw [List.length_map]; exact lt)] at hi
      rw [List.getElem?_append_left (by rw [hΓ]; exact lt)] at hm
      unfold inner at hi
      rw [List.getElem?_map] at hi
      cases hn : ns[i]? with
      | none => rw [hn] at hi; cases hi
      | some oy =>
        rw [hn] at hi
        cases oy with
        | none => cases hi
        | some y' =>
          simp only [Option.map_some, Option.some.injEq] at hi
          split at hi
          · rename_i hf
            cases hi
            obtain ⟨v, hv, vr⟩ := e0.vals i y mv hn hm
            obtain ⟨c, k1, k2⟩ := hfree y hf
            have ks : env.kindOf y = some .cell ∨ env.kindOf y = some .free := by
              rcases (c3 _ (mem_of_lookup hf)).2 rfl with w | w
              · exact .inl (e0.st.kinds y _ w)
              · rcases e0.st.kinds y _ w with w | w
                · exact .inr w
                · exact .inl w
            have hcell : s.heap.IsCell c (some v) := by
              rcases hv with ⟨kd, _⟩ | ⟨_, c', hc', hv⟩
              · rcases ks with w | w <;> rw [w] at kd <;> cases kd
              · rw [k2] at hc'; cases hc'; exact hv
            refine ⟨v, .inr ⟨?_, c, k1, hcell.keeps (compHeap_keep csc s.heap)⟩, vr.step F.step⟩
            rw [hkind, hf]
            simp only [Option.map_some]
            split
            · exact .inl rfl
            · exact .inr rfl
          · cases hi
    · exfalso
      rw [List.getElem?_append_right (by rw [hΓ]; omega)] at hm
      cases q : i - Γ.length with
      | zero => rw [q] at hm; simp at hm
      | succ n => rw [q] at hm; simp at hm
  · rcases hlook x q hq with ⟨_, _, w, _⟩ | ⟨_, w⟩
    · exact w
    · rw [hx] at w; cases w
end
end Mine

-- part MLoop
namespace Mine
open PySem

section
variable {cx : Cx} {N : Names} {A : Around} {env : Env} {sc : Scope} {ns : List (Option Str)} {Γ : Env'} {H : Hp} {ρ ρ' : Rho} {s : Shared}

/- an object that is new since h is turned -/
theorem Full.fresh {h h1 h2 : Heap} {q : Addr} (F : Full ρ h ρ' h1) (hq : h.get? q = none) (hs : ∀ b o, b ≠ q → h1.get? b = some o → h2.get? b = some o) : Full ρ h ρ' h2 := by
  have ne : ∀ b o, h.get? b = some o → b ≠ q := fun b o e w => by rw [w, hq] at e; cases e
  refine ⟨F.grow, fun b o e n => ?_, fun b o e => ?_⟩
  · obtain ⟨o', e', u⟩ := F.keep b o e n
    exact ⟨o', hs b o' (ne b o e) e', u⟩
  · obtain ⟨o', e'⟩ := F.live b o e
    exact ⟨o', hs b o' (ne b o e) e'⟩
theorem Full.addOwn {h h1 : Heap} {p : Addr × Addr} (F : Full ρ h ρ' h1) (hp : h.get? p.1 = none ∧ h.get? p.2 = none) : Full ρ h (ρ' ++ [p]) h1 := by
  obtain ⟨e, rfl, he⟩ := F.grow
  refine ⟨⟨e ++ [p], by rw [List.append_assoc], fun q hq => ?_⟩, F.keep, F.live⟩
  rcases List.mem_append.mp hq with hq | hq
  · exact he q hq
  · rw [List.mem_singleton.mp hq]; exact hp

/- an object that is no part of the frame is turned -/
theorem EnvOk.but {h h' : Heap} {q : Addr} (x : EnvOk cx env sc ns Γ ρ h) (hs : ∀ b o, b ≠ q → h.get? b = some o → h'.get? b = some o) (n1 : q ≠ env.locals) (n2 : ∀ y, env.cells.lookup y ≠ some q) (st : Step ρ h ρ h') : EnvOk cx env sc ns Γ ρ h' := by
  have kl : ∀ o, h.get? env.locals = some o → ∃ o', h'.get? env.locals = some o' ∧ o'.data = o.data := fun o e => ⟨o, hs _ o (fun w => n1 w.symm) e, rfl⟩
  have kc : ∀ y c, env.cells.lookup y = some c → ∀ o, h.get? c = some o → ∃ o', h'.get? c = some o' ∧ o'.data = o.data := fun y c hc o e => ⟨o, hs _ o (fun w => n2 y (w ▸ hc)) e, rfl⟩
  obtain ⟨m, hm⟩ := x.st.loc
  refine ⟨⟨x.st.fn, x.st.glob, x.st.blt, x.st.kinds, ⟨m, Heap_Ns_keep hm kl⟩, x.st.locN, x.st.locB, fun y c hc => ?_, x.st.hasCell, x.st.apart⟩, x.len, fun i y mv hi hm => ?_⟩
  · obtain ⟨⟨v, hv⟩, a, b⟩ := x.st.cells y c hc
    exact ⟨⟨v, IsCell_keep hv (kc y c hc)⟩, a, b⟩
  · obtain ⟨v, hv, r⟩ := x.vals i y mv hi hm
    refine ⟨v, ?_, r.step st⟩
    rcases hv with ⟨k, m, hm, e⟩ | ⟨k, c, hc, e⟩
    · exact .inl ⟨k, m, Heap_Ns_keep hm kl, e⟩
    · exact .inr ⟨k, c, hc, IsCell_keep e (kc y c hc)⟩

theorem listO_not {vs : List Value} {n : Nat} : ¬ Fixed (listO vs n) ∧ ∀ C, ¬ IsExcO (listO vs n) C := by
  refine ⟨fun f => ?_, fun C f => ?_⟩
  · rcases f with ⟨f, _⟩ | ⟨f, _⟩
    · exact absurd (Value.type.inj f) (by decide)
    · exact absurd (Value.type.inj f) (by decide)
  · exact nomatch f.1

/- a list that no one owned becomes one of the mini heap's -/
theorem Rel.adopt (R : Rel cx H ρ s) {D : Addr} {vs : List Value} {n : Nat} {xs : List Val} (e : s.heap.get? D = some (listO vs n)) (r : VRs cx ρ s.heap xs vs) (z : xs.length ≤ sizeLine) (no : ¬ Owned ρ D) (nb : cx.h₀.get? D = none) (hi : sysModules < D) :
    Rel cx (H ++ [.list xs]) (ρ ++ [(D, D)]) s ∧ VR cx (ρ ++ [(D, D)]) s.heap (.loc H.length) (.ref D) := by
  have notF : ¬ Fixed (listO vs n) := listO_not.1
  have notC : ∀ C, ¬ IsExcO (listO vs n) C := listO_not.2
  have own : ∀ b, ¬ Owned ρ b → b ≠ D → ¬ Owned (ρ ++ [(D, D)]) b := fun b nb ne ⟨p, hp, h⟩ => by
    rcases List.mem_append.mp hp with hp | hp
    · exact nb ⟨p, hp, h⟩
    · rw [List.mem_singleton.mp hp] at h
      rcases h with h | h <;> exact ne h
  have st : Step ρ s.heap (ρ ++ [(D, D)]) s.heap := ⟨⟨_, rfl⟩, fun b o eb f nb => ⟨eb, own b nb fun w => by rw [w, e] at eb; cases eb; exact notF f⟩, fun b o C eb c nb => ⟨o, eb, c, own b nb fun w => by rw [w, e] at eb; cases eb; exact notC C c⟩⟩
  have nD : ∀ p ∈ ρ, p.1 ≠ D ∧ p.2 ≠ D := fun p hp => ⟨fun w => no ⟨p, hp, .inl w.symm⟩, fun w => no ⟨p, hp, .inr w.symm⟩⟩
  have at' : ∀ {i : Nat} {q : Addr × Addr}, (ρ ++ [(D, D)])[i]? = some q → ρ[i]? = some q ∨ (i = ρ.length ∧ q = (D, D)) := by
    intro i q h
    by_cases lt : i < ρ.length
    · rw [List.getElem?_append_left lt] at h; exact .inl h
    · have hl' := (List.getElem?_eq_some_iff.mp h).1
      have le : i = ρ.length := by rw [List.length_append] at hl'; simp at hl'; omega
      subst le
      rw [List.getElem?_append_right (Nat.le_refl _)] at h
      simp at h
      exact .inr ⟨rfl, h.symm⟩
  refine ⟨⟨by rw [List.length_append, List.length_append, R.len]; rfl, fun l ob q hl hq => ?_, fun i j q r hij hi hj => ?_, fun q hq => ?_, fun q hq => ?_, R.base, R.low, R.sys, R.rest⟩, ?_⟩
  · rcases at' hq with hq | ⟨rfl, rfl⟩
    · have lt : l < H.length := by rw [R.len]; exact (List.getElem?_eq_some_iff.mp hq).1
      rw [List.getElem?_append_left lt] at hl
      exact (R.objs l ob q hl hq).step st fun b ob _ e => e
    · rw [← R.len, List.getElem?_append_right (Nat.le_refl _)] at hl
      simp at hl
      subst hl
      exact .list e (r.step st) z
  · rcases at' hi with hi' | ⟨hi', eq⟩ <;> rcases at' hj with hj' | ⟨hj', er⟩
    · exact R.apart i j q r hij hi' hj'
    · have q := nD _ (List.mem_of_getElem? hi'); rw [er]; exact ⟨⟨q.1, q.1⟩, q.2, q.2⟩
    · have q := nD _ (List.mem_of_getElem? hj'); rw [eq]; exact ⟨⟨q.1.symm, q.2.symm⟩, q.1.symm, q.2.symm⟩
    · exact absurd (hi'.trans hj'.symm) hij
  · rcases List.mem_append.mp hq with hq | hq
    · exact R.new q hq
    · rw [List.mem_singleton.mp hq]; exact ⟨nb, nb⟩
  · rcases List.mem_append.mp hq with hq | hq
    · exact R.high q hq
    · rw [List.mem_singleton.mp hq]; exact hi
  · rw [R.len]
    exact VR.loc (p := (D, D)) (by rw [List.getElem?_append_right (Nat.le_refl _)]; simp)

/-! ## the loop of a comprehension -/
structure CInv (cx : Cx) (ρ₁ : Rho) (h₁ : Heap) (D I : Addr) (cenv : Env) (csc : Scope) (ns' : List (Option Str)) (Γ : Env') (xs : List Val) (src : Option Nat) (i : Nat) (done : List Val) (H : Hp) (ρ : Rho) (s : Shared) : Prop where
  full : Full ρ₁ h₁ ρ s.heap
  rel : Rel cx H ρ s
  env : ∃ o, EnvOk cx cenv csc ns' (Γ ++ [o]) ρ s.heap
  it : ItOk cx xs I i ρ s.heap src
  acc : ∃ vs n, s.heap.get? D = some (listO vs n) ∧ VRs cx ρ s.heap done vs
  nD : ¬ Owned ρ D
  nI : ¬ Owned ρ I

variable {Φ : Funs} {l : List Env} {csc : Scope} {x : Str} {cond : MEo} {elt : ME} {ifs : List Expr} {e : Expr}

noncomputable def stepOf (T : Tab) (Φ : Funs) (cond : MEo) (elt : ME) (Γ : Env') (x : Val) : M (Option Val) := (evalC T Φ cond (Γ ++ [some x])).bnd fun b => match b with
  | true => (evalE T Φ elt (Γ ++ [some x])).bnd fun y => .ret (some y)
  | false => .ret none

theorem append_at {D : Addr} {vs : List Value} {n : Nat} {v : Value} {Q : Value → Shared → Prop} {E : Value → Shared → Prop} (g : s.heap.get? D = some (listO vs n)) (z : vs.length ≤ sizeLine)
    (k : ∀ h' n', h'.get? D = some (listO (vs ++ [v]) n') → Heap.SameBut D s.heap h' → Q .none { s with heap := h' }) : wpAny (model cx.prog cx.w) A (call (.builtin "list.append") [.ref D, v]) Q E s := by
  refine call_meets F.slot_list_append ⟨_, g, rfl⟩ F.entry_list_append (F.args_list_append_2 _ _) (list_append D vs.toArray n v (by simpa using z)) ⟨g, ?_⟩
  obtain ⟨n', e⟩ := mapSeq_list vs n (fun x => x.push v)
  refine k _ n' ?_ (Heap.SameBut.update ..)
  rw [Heap.get?_update_self _ g (by rw [e]; rfl), e]
  simp

theorem comp_loop {ρ₁ : Rho} {s₁ : Shared} {D I : Addr} {cenv : Env} {xs ys : List Val} {src : Option Nat} {H₁ H₂ : Hp} {px pos : Pos} {iter : Expr} {R : Result → Shared → Prop} (hh : A.handled = none)
    (hD : s₁.heap.get? D = none) (hI : s₁.heap.get? I = none) (hDI : D ≠ I) (hlow : sysModules < D) (hC : s₁.heap.get? cenv.locals = none) (hX : ∀ q, csc.names.lookup x = some .cell → cenv.cells.lookup x = some q → s₁.heap.get? q = none)
    (hnd : ∀ (i j : Nat) (y : Str), (inner csc ns ++ [some x])[i]? = some (some y) → (inner csc ns ++ [some x])[j]? = some (some y) → i = j) (hΓ : Γ.length = ns.length) (hxk : csc.names.lookup x = some .local ∨ csc.names.lookup x = some .cell)
    (fr : FramesOk cx l ρ₁ s₁.heap) (lvB : Live cx.h₀ s₁.heap)
    (tests : ∀ Γ' : Env', Γ'.length = (inner csc ns ++ [some x]).length → Sim cx A ((Amb.env cx cenv csc (inner csc ns ++ [some x]) Γ').and (Amb.frames cx l)) (forIn ifs true fun c r => if r = true then do let ok ← isTrue c cenv (eval c cenv); pure (ForInStep.yield ok) else pure (ForInStep.yield r)) (evalC cx.T Φ cond Γ') BV)
    (elts : ∀ Γ' : Env', Γ'.length = (inner csc ns ++ [some x]).length → Sim cx A ((Amb.env cx cenv csc (inner csc ns ++ [some x]) Γ').and (Amb.frames cx l)) (eval e cenv) (evalE cx.T Φ elt Γ') (Amb.vr cx))
    (hz : ys.length < sizeLine) {s : Shared} {ρ : Rho} (ci : CInv cx ρ₁ s₁.heap D I cenv csc (inner csc ns ++ [some x]) Γ xs src 0 [] H₁ ρ s) (hres : compL (chk src xs) (stepOf cx.T Φ cond elt Γ) xs H₁ = .ok ys H₂)
    (k : ∀ ρ' s', Full ρ₁ s₁.heap ρ' s'.heap → Rel cx (H₂ ++ [.list ys]) ρ' s' → VR cx ρ' s'.heap (.loc H₂.length) (.ref D) → (∃ m, s'.heap.Ns cenv.locals m) → ¬ Owned ρ' cenv.locals → R (.ok .next) s') :
    codeAny (model cx.prog cx.w) A (.compLoop (.ListComp e [⟨.Name x px, iter, ifs, 0⟩] csc pos) 0 (.ref I) (.ref D) cenv) R s := by
  refine codeAny_compLoop_tests (fun n s => ∃ i done H ρ rest, CInv cx ρ₁ s₁.heap D I cenv csc (inner csc ns ++ [some x]) Γ xs src i done H ρ s ∧ i ≤ xs.length ∧ n = xs.length + 1 - i ∧
    compL (chk src xs) (stepOf cx.T Φ cond elt Γ) (xs.drop i) H = .ok rest H₂ ∧ done ++ rest = ys) ?_ (xs.length + 1) ⟨0, [], H₁, ρ, ys, ci, Nat.zero_le _, rfl, hres, rfl⟩
  rintro n s ⟨i, done, H, ρ, rest, ci, hi, rfl, hr, hys⟩
  obtain ⟨vs, nn, gD, rD⟩ := ci.acc
  obtain ⟨oo, eok⟩ := ci.env
  obtain ⟨oI, gI, iO⟩ := ci.it.obj
  cases hx : xs[i]? with
  | none =>
    have hlen := List.getElem?_eq_none_iff.mp hx
    rw [List.drop_eq_nil_of_le hlen] at hr
    have ck : chk src xs H = true := by
      unfold compL at hr
      by_cases q : chk src xs H = true
      · exact q
      · rw [if_neg q] at hr; cases hr
    have hr' : rest = [] ∧ H = H₂ := by
      unfold compL at hr
      rw [if_pos ck] at hr
      cases hr; exact ⟨rfl, rfl⟩
    obtain ⟨rfl, rfl⟩ := hr'
    rw [List.append_nil] at hys
    subst hys
    refine iter_end hh ci.rel ci.it ck hx fun h' tk he => ?_
    have gD' : h'.get? D = some (listO vs nn) := he D _ hDI gD
    have st : Step ρ s.heap ρ h' := Step.ext gI he iO.not.1 iO.not.2
    have bI : cx.h₀.get? I = none := lvB.none hI
    have R' : Rel cx H ρ { s with heap := h', toks := tk } := ci.rel.same st (fun b o ho eb => he b o (fun w => ci.nI (w ▸ ho)) eb) fun b o eb => he b o (fun w => by rw [w, bI] at eb; cases eb) (ci.rel.base b o eb)
    obtain ⟨R2, v2⟩ := Rel.adopt (s := { s with heap := h', toks := tk }) R' gD' (rD.step st) (Nat.le_of_lt hz) ci.nD (lvB.none hD) hlow
    have F2 : Full ρ₁ s₁.heap ρ h' := ci.full.fresh hI he
    obtain ⟨m, hm⟩ := eok.st.loc
    have nIl : I ≠ cenv.locals := eok.st.notLoc gI iO.notDict
    refine k _ _ (F2.addOwn ⟨hD, hD⟩) R2 v2 ⟨m, Heap_Ns_keep hm fun o eo => ⟨o, he _ o (fun w => nIl w.symm) eo, rfl⟩⟩ ?_
    intro ⟨p, hp, h⟩
    rcases List.mem_append.mp hp with hp | hp
    · exact eok.st.locN ⟨p, hp, h⟩
    · rw [List.mem_singleton.mp hp] at h
      have : cenv.locals = D := by rcases h with h | h <;> exact h
      exact eok.st.notLoc gD (fun es k q => by cases q) this.symm
  | some m =>
    have lt : i < xs.length := (List.getElem?_eq_some_iff.mp hx).1
    have hdrop : xs.drop i = m :: xs.drop (i + 1) := by
      rw [List.drop_eq_getElem_cons lt]
      rw [List.getElem?_eq_getElem lt] at hx
      cases hx; rfl
    rw [hdrop] at hr
    unfold compL at hr
    by_cases ck : chk src xs H = true
    · rw [if_pos ck] at hr
      have hstep : ∃ r H3, stepOf cx.T Φ cond elt Γ m H = .ok r H3 ∧ ∃ rest', compL (chk src xs) (stepOf cx.T Φ cond elt Γ) (xs.drop (i + 1)) H3 = .ok rest' H₂ ∧ rest = (match r with | some y => y :: rest' | none => rest') := by
        cases e1 : stepOf cx.T Φ cond elt Γ m H with
        | bad => rw [bnd_bad e1] at hr; cases hr
        | exc c H3 => rw [bnd_exc e1] at hr; cases hr
        | ok r H3 =>
          rw [bnd_ok e1] at hr
          cases e2 : compL (chk src xs) (stepOf cx.T Φ cond elt Γ) (xs.drop (i + 1)) H3 with
          | bad => rw [bnd_bad e2] at hr; cases hr
          | exc c H4 => rw [bnd_exc e2] at hr; cases hr
          | ok rest' H4 =>
            rw [bnd_ok e2] at hr
            cases hr
            exact ⟨r, H3, rfl, rest', e2, rfl⟩
      obtain ⟨r, H3, e1, rest', e2, hrest⟩ := hstep
      refine iter_item ci.rel ci.it ck hx fun v h' tk hs hlive kk => ?_
      obtain ⟨oI', gI'⟩ := hlive
      have st : Step ρ s.heap ρ h' := Step.but gI' gI hs iO.not.1 iO.not.2
      obtain ⟨vm, it'⟩ := kk st
      have bI : cx.h₀.get? I = none := lvB.none hI
      have R' : Rel cx H ρ { s with heap := h', toks := tk } := ci.rel.but gI' gI hs iO.not.1 iO.not.2 ci.nI bI
      have ext : ∀ b o, b ≠ I → s.heap.get? b = some o → h'.get? b = some o := fun b o nb eb => by rw [hs.2 b nb]; exact eb
      have eok' : EnvOk cx cenv csc (inner csc ns ++ [some x]) (Γ ++ [oo]) ρ h' := eok.but ext (eok.st.notLoc gI iO.notDict) (eok.st.notCell gI iO.notCell) st
      have F' : Full ρ₁ s₁.heap ρ h' := ci.full.fresh hI ext
      have gD' : h'.get? D = some (listO vs nn) := ext D _ hDI gD
      have lenN : (inner csc ns).length = ns.length := by unfold inner; rw [List.length_map]
      have own : isOwn csc (inner csc ns ++ [some x]) ns.length x = true := by
        unfold isOwn
        have e0 : (inner csc ns ++ [some x])[ns.length]? = some (some x) := by rw [List.getElem?_append_right (by rw [lenN]; exact Nat.le_refl _), lenN]; simp
        rw [e0]
        rcases hxk with w | w <;> rw [w] <;> simp
      refine wpAny_assign_Name (store_var (s := { s with heap := h', toks := tk }) (Γ := Γ ++ [oo]) (by rw [List.length_append, List.length_append, hΓ, lenN]; rfl) hnd R' eok' own vm fun h2 tk2 FS R2 eok2 hq => ?_)
      obtain ⟨q, oq, hqd, hqs, gq⟩ := hq
      have set_eq : (Γ ++ [oo]).set ns.length (some m) = Γ ++ [some m] := by
        rw [← hΓ, List.set_append_right _ _ (Nat.le_refl _), Nat.sub_self]; rfl
      rw [set_eq] at eok2
      have qfresh : s₁.heap.get? q = none := by
        rcases hqd with ⟨_, rfl⟩ | ⟨w1, w2⟩
        · exact hC
        · exact hX q w1 w2
      have ext2 : ∀ b o, b ≠ q → h'.get? b = some o → h2.get? b = some o := fun b o nb eb => by rw [hqs.2 b nb]; exact eb
      have F2 : Full ρ₁ s₁.heap ρ h2 := F'.fresh qfresh ext2
      have qD : D ≠ q := by
        rcases hqd with ⟨_, rfl⟩ | ⟨w1, w2⟩
        · exact eok'.st.notLoc gD' (fun es k q => by cases q)
        · exact fun w => eok'.st.notCell gD' (fun v q => by cases q) x (w ▸ w2)
      obtain ⟨oI2, gI2, iO2⟩ := it'.obj
      have qI : I ≠ q := by
        rcases hqd with ⟨_, rfl⟩ | ⟨w1, w2⟩
        · exact eok'.st.notLoc gI2 iO2.notDict
        · exact fun w => eok'.st.notCell gI2 iO2.notCell x (w ▸ w2)
      have St2 : Step ρ h' ρ h2 := FullS.step eok'.st FS
      have it2 : ItOk cx xs I (i + 1) ρ h2 src := it'.step St2 fun o eo => ext2 I o qI eo
      have rD2 : VRs cx ρ h2 done vs := (rD.step st).step St2
      have gD2 : h2.get? D = some (listO vs nn) := ext2 D _ qD gD'
      have lenG : (Γ ++ [some m]).length = (inner csc ns ++ [some x]).length := by rw [List.length_append, List.length_append, hΓ, lenN]; rfl
      -- the tests
      unfold stepOf at e1
      cases e3 : evalC cx.T Φ cond (Γ ++ [some m]) H with
      | bad => rw [bnd_bad e3] at e1; cases e1
      | exc c H4 => rw [bnd_exc e3] at e1; cases e1
      | ok b H4 =>
        rw [bnd_ok e3] at e1
        have T := tests (Γ ++ [some m]) lenG H ρ { s with heap := h2, toks := tk2 } R2 ⟨eok2, fr.full F2⟩
        rw [e3] at T
        refine wpAny_mono T (fun b' s3 ⟨ρ3, F3, R3, hb⟩ => ?_) fun _ _ q => q.elim
        have hb' : b' = b := hb
        subst hb'
        have F3' : Full ρ₁ s₁.heap ρ3 s3.heap := F2.trans F3
        have gD3 : s3.heap.get? D = some (listO vs nn) := F3.keep.exact gD2 ci.nD (fun es k q => by cases q)
        have nD3 : ¬ Owned ρ3 D := F3.grow.not ci.nD gD2
        obtain ⟨oI3, gI3, iO3⟩ := it2.obj
        have it3 : ItOk cx xs I (i + 1) ρ3 s3.heap src := it2.step F3.step fun o eo => by
          rw [gI3] at eo; cases eo
          exact F3.keep.exact gI3 ci.nI iO3.notDict
        have nI3 : ¬ Owned ρ3 I := F3.grow.not ci.nI gI3
        have rD3 : VRs cx ρ3 s3.heap done vs := rD2.step F3.step
        have eok3 : EnvOk cx cenv csc (inner csc ns ++ [some x]) (Γ ++ [some m]) ρ3 s3.heap := eok2.full F3
        cases b' with
        | false =>
          cases e1
          simp only [Bool.false_eq_true, if_false]
          refine ⟨xs.length + 1 - (i + 1), by omega, i + 1, done, H3, ρ3, rest', ⟨F3', R3, ⟨_, eok3⟩, it3, ⟨vs, nn, gD3, rD3⟩, nD3, nI3⟩, lt, rfl, e2, ?_⟩
          rw [← hys, hrest]
        | true =>
          simp only [if_true]
          dsimp only at e1
          cases e4 : evalE cx.T Φ elt (Γ ++ [some m]) H4 with
          | bad => rw [bnd_bad e4] at e1; cases e1
          | exc c H5 => rw [bnd_exc e4] at e1; cases e1
          | ok y H5 =>
            rw [bnd_ok e4] at e1
            cases e1
            have T2 := elts (Γ ++ [some m]) lenG H4 ρ3 s3 R3 ⟨eok3, fr.full F3'⟩
            rw [e4] at T2
            refine wpAny_mono T2 (fun yv s4 ⟨ρ4, F4, R4, hy⟩ => ?_) fun _ _ q => q.elim
            have F4' : Full ρ₁ s₁.heap ρ4 s4.heap := F3'.trans F4
            have gD4 : s4.heap.get? D = some (listO vs nn) := F4.keep.exact gD3 nD3 (fun es k q => by cases q)
            have nD4 : ¬ Owned ρ4 D := F4.grow.not nD3 gD3
            obtain ⟨oI4, gI4, iO4⟩ := it3.obj
            have it4 : ItOk cx xs I (i + 1) ρ4 s4.heap src := it3.step F4.step fun o eo => by
              rw [gI4] at eo; cases eo
              exact F4.keep.exact gI4 nI3 iO4.notDict
            have nI4 : ¬ Owned ρ4 I := F4.grow.not nI3 gI4
            have rD4 : VRs cx ρ4 s4.heap done vs := rD3.step F4.step
            have eok4 := eok3.full F4
            have hlenD : vs.length < sizeLine := by
              rw [← rD.length]
              have : ys.length = done.length + rest.length := by rw [← hys, List.length_append]
              have : done.length < ys.length := by rw [this, hrest]; simp
              omega
            refine append_at gD4 (Nat.le_of_lt hlenD) fun h5 n5 gD5 hs5 => ?_
            have St5 : Step ρ4 s4.heap ρ4 h5 := Step.but gD5 gD4 hs5 listO_not.1 listO_not.2
            have ext5 : ∀ b o, b ≠ D → s4.heap.get? b = some o → h5.get? b = some o := fun b o nb eb => by rw [hs5.2 b nb]; exact eb
            have R5 : Rel cx H3 ρ4 { s4 with heap := h5 } := R4.but (tk := s4.toks) gD5 gD4 hs5 listO_not.1 listO_not.2 nD4 (lvB.none hD)
            refine ⟨xs.length + 1 - (i + 1), by omega, i + 1, done ++ [y], H3, ρ4, rest', ⟨F4'.fresh hD ext5, R5, ⟨_, eok4.but ext5 (eok4.st.notLoc gD4 (fun es k q => by cases q)) (eok4.st.notCell gD4 (fun v q => by cases q)) St5⟩, it4.step St5 fun o eo => ext5 I o (fun w => hDI w.symm) eo, ⟨_, _, gD5, (rD4.step St5).append (.one (hy.step St5))⟩, nD4, nI4⟩, lt, rfl, e2, ?_⟩
            rw [← hys, hrest, List.append_assoc]; rfl
    · rw [if_neg ck] at hr; cases hr
end
end Mine

-- part MCompE
namespace Mine
open PySem

theorem foldedSet_of {i : Expr} (h : notSet i = true) (env : Env) (x : Value) : foldedSetIterable i env x = pure x := by
  cases i <;> first | rfl | cases h

section
variable {cx : Cx} {N : Names} {A : Around} {env : Env} {sc csc : Scope} {ns : List (Option Str)} {Γ : Env'} {H : Hp} {ρ ρ' : Rho} {s : Shared} {Φ : Funs} {l : List Env} {x : Str} {cond : MEo} {elt : ME} {ifs : List Expr} {e : Expr}

/- an object that is not owned, not the base's, and that no value leans on is turned -/
theorem Rel.ext (R : Rel cx H ρ s) {h' : Heap} {tk : Nat} {a : Addr} {o : Obj} (e : s.heap.get? a = some o) (hs : Heap.ExtBut a s.heap h') (n1 : ¬ Fixed o) (n2 : ∀ C, ¬ IsExcO o C) (no : ¬ Owned ρ a) (nb : cx.h₀.get? a = none) :
    Rel cx H ρ { s with heap := h', toks := tk } :=
  R.same (Step.ext e hs n1 n2) (fun b ob ho eb => hs b ob (fun q => no (q ▸ ho)) eb) fun b ob eb => hs b ob (fun q => by subst q; rw [nb] at eb; cases eb) (R.base b ob eb)

theorem iter_self {xs : List Val} {I : Addr} {i : Nat} {src : Option Nat} (x : ItOk cx xs I i ρ s.heap src) {Q : Value → Shared → Prop} {E : Value → Shared → Prop} (k : Q (.ref I) s) : wpAny (model cx.prog cx.w) A (pyIter (.ref I)) Q E s := by
  cases x with
  | list hp hi => exact wpAny_pyIter_listiter hi k
  | tup e n r hi => exact wpAny_pyIter_tupleiter hi k
  | script e r hi => exact wpAny_pyIter_listiter hi k
  | rng e hi => exact wpAny_pyIter_rangeiter hi k
  | str e ht hs =>
    rcases ht with rfl | rfl
    · exact wpAny_pyIter_striter_ascii hs k
    · exact wpAny_pyIter_striter_wide hs k

/- what a comprehension's parts do -/
structure CParts (cx : Cx) (A : Around) (Φ : Funs) (l : List Env) (csc : Scope) (ns' : List (Option Str)) (cond : MEo) (elt : ME) (ifs : List Expr) (e : Expr) : Prop where
  tests : ∀ (cenv : Env) (Γ' : Env'), Γ'.length = ns'.length → Sim cx A ((Amb.env cx cenv csc ns' Γ').and (Amb.frames cx l)) (forIn ifs true fun c r => if r = true then do let ok ← isTrue c cenv (eval c cenv); pure (ForInStep.yield ok) else pure (ForInStep.yield r)) (evalC cx.T Φ cond Γ') BV
  elts : ∀ (cenv : Env) (Γ' : Env'), Γ'.length = ns'.length → Sim cx A ((Amb.env cx cenv csc ns' Γ').and (Amb.frames cx l)) (eval e cenv) (evalE cx.T Φ elt Γ') (Amb.vr cx)

theorem inner_inj (hnd : ∀ (i j : Nat) (y : Str), ns[i]? = some (some y) → ns[j]? = some (some y) → i = j) (hx : csc.names.lookup x = some .local ∨ csc.names.lookup x = some .cell) :
    ∀ (i j : Nat) (y : Str), (inner csc ns ++ [some x])[i]? = some (some y) → (inner csc ns ++ [some x])[j]? = some (some y) → i = j := by
  have lenN : (inner csc ns).length = ns.length := by unfold inner; rw [List.length_map]
  have at' : ∀ (i : Nat) (y : Str), (inner csc ns ++ [some x])[i]? = some (some y) → (ns[i]? = some (some y) ∧ csc.names.lookup y = some .free) ∨ (i = ns.length ∧ y = x) := by
    intro i y h
    by_cases lt : i < ns.length
    · rw [List.getElem?_append_left (by rw [lenN]; exact lt)] at h
      unfold inner at h
      rw [List.getElem?_map] at h
      cases hn : ns[i]? with
      | none => rw [hn] at h; cases h
      | some oy =>
        rw [hn] at h
        cases oy with
        | none => cases h
        | some y' =>
          simp only [Option.map_some, Option.some.injEq] at h
          split at h
          · rename_i hf; cases h; exact .inl ⟨rfl, hf⟩
          · cases h
    · rw [List.getElem?_append_right (by rw [lenN]; omega), lenN] at h
      cases q : i - ns.length with
      | zero => rw [q] at h; simp at h; exact .inr ⟨by omega, h.symm⟩
      | succ n => rw [q] at h; simp at h
  intro i j y hi hj
  rcases at' i y hi with ⟨a1, a2⟩ | ⟨a1, a2⟩ <;> rcases at' j y hj with ⟨b1, b2⟩ | ⟨b1, b2⟩
  · exact hnd i j y a1 b1
  · subst b2; rcases hx with w | w <;> rw [w] at a2 <;> cases a2
  · subst a2; rcases hx with w | w <;> rw [w] at b2 <;> cases b2
  · omega

theorem comp_block (hh : A.handled = none) (hc : compOk sc csc x = true) (hnd : ∀ (i j : Nat) (y : Str), ns[i]? = some (some y) → ns[j]? = some (some y) → i = j) (hΓ : Γ.length = ns.length)
    (pt : CParts cx A Φ l csc (inner csc ns ++ [some x]) cond elt ifs e)
    {v : Val} {xv : Value} {xs ys : List Val} {src : Option Nat} {H₂ : Hp} {px pos : Pos} {iter : Expr} {RR : Value → Addr → Result → Shared → Prop} {E : Value → Shared → Prop}
    (R : Rel cx H ρ s) (e0 : EnvOk cx env sc ns Γ ρ s.heap) (fr : FramesOk cx l ρ s.heap) (vr : VR cx ρ s.heap v xv) (hit : iterOf v H = some (xs, src)) (hres : compL (chk src xs) (stepOf cx.T Φ cond elt Γ) xs H = .ok ys H₂) (hz : ys.length < sizeLine)
    (k : ∀ D C ρ' s', Full ρ s.heap ρ' s'.heap → Rel cx (H₂ ++ [.list ys]) ρ' s' → VR cx ρ' s'.heap (.loc H₂.length) (.ref D) → (∃ m, s'.heap.Ns C m) → ¬ Owned ρ' C → s.heap.get? C = none → RR (.ref D) C (.ok .next) s') :
    wpAny (model cx.prog cx.w) A (pyIter xv) (fun it s₂ => wpAny (model cx.prog cx.w) A (newList []) (fun acc s₃ => wpAny (model cx.prog cx.w) A (newFunctionEnv csc env.globals (cloOf env csc.names []) [] env.qual none .none (some env)) (fun cenv s₄ =>
      codeAny (model cx.prog cx.w) A (.compStart (.ListComp e [⟨.Name x px, iter, ifs, 0⟩] csc pos) 0 it acc { cenv with scope := relabel csc env }) (RR acc cenv.locals) s₄) E s₃) E s₂) E s := by
  obtain ⟨c1, c2, c3⟩ := compOk_parts hc
  have lvB : Live cx.h₀ s.heap := fun b o e => ⟨o, R.base b o e⟩
  refine iter_start R vr hit fun o go it0 => ?_
  refine wpAny_newObj_type ?_
  refine wpAny_newCompEnv _ ?_
  -- the three heaps
  generalize hs1 : ({ s with heap := s.heap.push o } : Shared) = s1 at it0
  have h1 : s1.heap = s.heap.push o := by rw [← hs1]
  have F1 : Full ρ s.heap ρ s1.heap := by rw [h1]; exact Full.push _ _ _
  have R1 : Rel cx H ρ s1 := by rw [← hs1]; exact R.push o s.toks
  generalize hs2 : ({ s1 with heap := s1.heap.push (listO [] 0) } : Shared) = s2
  have h2 : s2.heap = s1.heap.push (listO [] 0) := by rw [← hs2]
  have F2 : Full ρ s1.heap ρ s2.heap := by rw [h2]; exact Full.push _ _ _
  have R2 : Rel cx H ρ s2 := by rw [← hs2]; exact R1.push (listO [] 0) s1.toks
  have z1 : s1.heap.objs.size = s.heap.objs.size + 1 := by rw [h1, Heap.size_push]
  have z2 : s2.heap.objs.size = s.heap.objs.size + 2 := by rw [h2, Heap.size_push, z1]
  have F12 : Full ρ s.heap ρ s2.heap := F1.trans F2
  have e2 : EnvOk cx env sc ns Γ ρ s2.heap := e0.full F12
  obtain ⟨ce, cf⟩ := comp_env R2 e2 hc hΓ
  have F3 : Full ρ s2.heap ρ (compHeap csc s2.heap) := Full.more (compHeap_keep csc s2.heap)
  have R3 : Rel cx H ρ { s2 with heap := compHeap csc s2.heap } := R2.more (tk := s2.toks) (compHeap_keep csc s2.heap)
  have hDn : s.heap.get? s1.heap.objs.size = none := fresh_le (by rw [z1]; exact Nat.le_succ _)
  have hIn : s.heap.get? s.heap.objs.size = none := fresh_none _
  have hCn : s.heap.get? s2.heap.objs.size = none := fresh_le (by rw [z2]; exact Nat.le_add_right _ _)
  have gD2 : s2.heap.get? s1.heap.objs.size = some (listO [] 0) := by rw [h2]; exact Heap.get?_push_size _ rfl
  have it1 : ItOk cx xs s.heap.objs.size 0 ρ s1.heap src := by rw [h1]; exact it0
  have go1 : s1.heap.get? s.heap.objs.size = some o := by rw [h1]; exact go
  have it3 : ItOk cx xs s.heap.objs.size 0 ρ (compHeap csc s2.heap) src := (it1.step F2.step fun o' eo => by rw [h2]; exact Heap.get?_push_of_some _ eo).step F3.step (compHeap_keep csc s2.heap _)
  have ci : CInv cx ρ s.heap s1.heap.objs.size s.heap.objs.size (compEnv csc env s2.heap.objs.size) csc (inner csc ns ++ [some x]) Γ xs src 0 [] H ρ { s2 with heap := compHeap csc s2.heap } :=
    ⟨F12.trans F3, R3, ⟨none, ce⟩, it3, ⟨[], 0, compHeap_keep csc s2.heap _ _ gD2, .nil⟩, R.fresh_not hDn, R.fresh_not hIn⟩
  have loop : codeAny (model cx.prog cx.w) A (.compLoop (.ListComp e [⟨.Name x px, iter, ifs, 0⟩] csc pos) 0 (.ref s.heap.objs.size) (.ref s1.heap.objs.size) (compEnv csc env s2.heap.objs.size)) (RR (.ref s1.heap.objs.size) s2.heap.objs.size) { s2 with heap := compHeap csc s2.heap } := by
    refine comp_loop (s₁ := s) (ρ₁ := ρ) (l := l) hh hDn hIn (by rw [z1]; exact Nat.succ_ne_self _) (by rw [z1]; exact Nat.lt_succ_of_lt R.low) hCn (fun q w1 w2 => ?_) (inner_inj hnd c2) hΓ c2 fr lvB (fun Γ' h' => pt.tests _ Γ' h') (fun Γ' h' => pt.elts _ Γ' h') hz ci hres fun ρ' s' F' R' v' m' n' => ?_
    · have := cf q w1 w2
      cases g : s.heap.get? q with
      | none => rfl
      | some ob =>
        obtain ⟨o', eo'⟩ := F12.live q ob g
        rw [this] at eo'; cases eo'
    · exact k _ _ ρ' s' F' R' v' m' n' hCn
  have key := codeAny_compStart_list loop (iter_self (ρ := ρ) (s := { s2 with heap := compHeap csc s2.heap }) it3 loop)
  subst hs1
  subst hs2
  exact key

theorem compPost_mono {E E' : Value → Shared → Prop} {use : Option (Value → Sem Unit)} {Q Q' : Value → Shared → Prop} {acc : Value} {C : Addr} {r : Result} {s' : Shared} {M : Model} (h : compPost M A E use Q acc C r s') (k1 : ∀ a s, Q a s → Q' a s) (k2 : ∀ e s, E e s → E' e s) : compPost M A E' use Q' acc C r s' := by
  unfold compPost at h ⊢
  cases r with
  | ok f =>
    cases use with
    | none => obtain ⟨m, hm, h⟩ := h; exact ⟨m, hm, fun h' hs => k1 _ _ (h h' hs)⟩
    | some u => exact wpAny_mono h (fun _ s'' ⟨m, hm, h⟩ => ⟨m, hm, fun h' hs => k1 _ _ (h h' hs)⟩) k2
  | error x =>
    cases use with
    | none => obtain ⟨m, hm, h⟩ := h; exact ⟨m, hm, fun h' hs c hc => wpAny_mono (h h' hs c hc) (fun _ _ q => q) k2⟩
    | some u => obtain ⟨m, hm, h⟩ := h; exact ⟨m, hm, fun h' hs c hc => wpAny_mono (h h' hs c hc) (fun _ _ q => q) k2⟩

theorem quiet_ok {α : Type} {m : M α} {H H' : Hp} {a : α} (h : M.quiet m H = .ok a H') : m H = .ok a H' := by
  unfold M.quiet at h
  split at h
  · cases h
  · exact h
theorem quiet_exc {α : Type} {m : M α} {H H' : Hp} {c : Nat} (h : M.quiet m H = .exc c H') : False := by
  unfold M.quiet at h
  split at h
  · cases h
  · rename_i q; exact q c H' h

noncomputable def compRest (T : Tab) (Φ : Funs) (cond : MEo) (elt : ME) (Γ : Env') (v : Val) : M Val := (M.look (iterOf v)).bnd fun p =>
  (M.quiet (compL (chk p.2 p.1) (stepOf T Φ cond elt Γ) p.1)).bnd fun ys => if ys.length < lid then M.alloc (.list ys) else .bad
theorem comp_eval (T : Tab) (Φ : Funs) (cond : MEo) (elt it : ME) (Γ : Env') : evalE T Φ (.comp elt it cond) Γ = (evalE T Φ it Γ).bnd (compRest T Φ cond elt Γ) := by
  rw [evalE]; rfl
theorem compRest_cases {T : Tab} {Φ : Funs} {cond : MEo} {elt : ME} {Γ : Env'} {v : Val} {H : Hp} : compRest T Φ cond elt Γ v H = .bad ∨
    ∃ xs src ys H₂, iterOf v H = some (xs, src) ∧ compL (chk src xs) (stepOf T Φ cond elt Γ) xs H = .ok ys H₂ ∧ ys.length < sizeLine ∧ compRest T Φ cond elt Γ v H = .ok (.loc H₂.length) (H₂ ++ [.list ys]) := by
  unfold compRest
  cases e1 : iterOf v H with
  | none => left; rw [bnd_bad (look_none e1)]
  | some p =>
    rw [bnd_ok (look_some e1)]
    obtain ⟨xs, src⟩ := p
    dsimp only
    cases e2 : M.quiet (compL (chk src xs) (stepOf T Φ cond elt Γ) xs) H with
    | bad => left; rw [bnd_bad e2]
    | exc c H' => exact (quiet_exc e2).elim
    | ok ys H₂ =>
      rw [bnd_ok e2]
      by_cases q : ys.length < lid
      · right
        refine ⟨xs, src, ys, H₂, rfl, quiet_ok e2, by rw [← sizeLine_lid]; exact q, ?_⟩
        rw [if_pos q]; rfl
      · left; rw [if_neg q]; rfl

theorem nsO_not {h : Heap} {C : Addr} {m : Str → Option Value} (n : h.Ns C m) : ∃ o, h.get? C = some o ∧ ¬ Fixed o ∧ ∀ D, ¬ IsExcO o D := by
  obtain ⟨o, es, ep, e, d, _⟩ := n
  exact ⟨o, e, fun f => f.notDict _ _ d, fun D f => f.notDict _ _ d⟩

theorem eok_comp (hh : A.handled = none) {it : ME} {i : Expr} {px pos : Pos} (hi : notSet i = true) (hc : compOk sc csc x = true) (hnd : ∀ (i j : Nat) (y : Str), ns[i]? = some (some y) → ns[j]? = some (some y) → i = j) (hΓ : Γ.length = ns.length)
    (pt : CParts cx A Φ l csc (inner csc ns ++ [some x]) cond elt ifs e) (y : EOk cx A ((Amb.env cx env sc ns Γ).and (Amb.frames cx l)) Φ env Γ it i) :
    EOk cx A ((Amb.env cx env sc ns Γ).and (Amb.frames cx l)) Φ env Γ (.comp elt it cond) (.ListComp e [⟨.Name x px, i, ifs, 0⟩] csc pos) := by
  obtain ⟨c1, c2, c3⟩ := compOk_parts hc
  refine EOk.of ?_ rfl
  intro H ρ s R p
  rw [comp_eval]
  refine SimAt.bindK (K' := fun Q E s => wpAny (model cx.prog cx.w) A (eval (.ListComp e [⟨.Name x px, i, ifs, 0⟩] csc pos) env) Q E s)
    (K := fun xv Q E s => wpAny (model cx.prog cx.w) A (pyIter xv) (fun it s₂ => wpAny (model cx.prog cx.w) A (newList []) (fun acc s₃ => wpAny (model cx.prog cx.w) A (newFunctionEnv csc env.globals (cloOf env csc.names []) [] env.qual none .none (some env)) (fun cenv s₄ =>
      codeAny (model cx.prog cx.w) A (.compStart (.ListComp e [⟨.Name x px, i, ifs, 0⟩] csc pos) 0 it acc { cenv with scope := relabel csc env }) (compPost (model cx.prog cx.w) A E none Q acc cenv.locals) s₄) E s₃) E s₂) E s) (y.val H ρ s R p) ?_ ?_ ?_
  · intro b xv H1 ρ1 s1 _ F1 R1 vr
    rcases compRest_cases (T := cx.T) (Φ := Φ) (cond := cond) (elt := elt) (Γ := Γ) (v := b) (H := H1) with w | ⟨xs, src, ys, H₂, w1, w2, w3, w4⟩
    · rw [w]; trivial
    · rw [w4]
      refine comp_block hh hc hnd hΓ pt R1 (p.1.full F1) (p.2.full F1) vr w1 w2 w3 fun D C ρ' s' F' R' v' m' n' hC => ?_
      obtain ⟨m, hm⟩ := m'
      obtain ⟨oC, gC, nf, nx⟩ := nsO_not hm
      have lvB : Live cx.h₀ s1.heap := fun b o e => ⟨o, R1.base b o e⟩
      refine ⟨m, hm, fun h' hs => ?_⟩
      have st : Step ρ' s'.heap ρ' h' := Step.ext gC hs.extBut nf nx
      exact ⟨ρ', F'.fresh hC hs.extBut, R'.ext (tk := s'.toks) gC hs.extBut nf nx n' (lvB.none hC), v'.step st⟩
  · intro xv Q E Q' E' s h k1 k2
    exact wpAny_mono h (fun it s₂ h2 => wpAny_mono h2 (fun acc s₃ h3 => wpAny_mono h3 (fun cenv s₄ h4 => codeAny_mono h4 fun r s' hr => compPost_mono hr k1 k2) k2) k2) k2
  · intro Q E h
    rw [eval_ListComp]
    exact wpAny_comprehension_free (use := none) (g := ⟨.Name x px, i, ifs, 0⟩) (gs := []) rfl (fun xv => foldedSet_of hi env xv)
      (closureFor_eq fun p' hp' hf => p.1.st.hasCell p'.1 (by rcases (c3 p' hp').2 hf with w | w; exact .inl w; exact .inr w)) c1 (fun p' hp' hl => by rw [(c3 p' hp').1, hl]) h
end
end Mine

-- part MEval
namespace Mine
open PySem
section
variable {cx : Cx} {N : Names} {A : Around} {Φ : Funs} {l : List Env} {d : Nat}

/- all that the walk over an expression leans on -/
structure Ground (cx : Cx) (N : Names) (A : Around) (Φ : Funs) (l : List Env) (d : Nat) : Prop where
  base : Base cx N
  room : Room A d
  frames : A.frames = some l
  funs : FunsOk cx Φ d
  defs : ∀ (f : Nat) (a : Addr), cx.fns[f]? = some a → ∃ g, cx.T.funs[f]? = some g
theorem Ground.u (G : Ground cx N A Φ l d) : A.units + 100 < cLine := by have := G.room.units; omega

/- the names of a frame are told apart -/
noncomputable def Apart (ns : List (Option Str)) : Prop := ∀ (i j : Nat) (y : Str), ns[i]? = some (some y) → ns[j]? = some (some y) → i = j

theorem bm_len {m : BM} {ms : List Val} {xs : List Expr} (h1 : (bmName m).2 = xs.length) (h2 : ms.length = xs.length) : ms.length = (bmName m).2 := by rw [h1, h2]

theorem bm_one (m : BM) (b : Val) (v : Value) (ms : List Val) (vs : List Value) (hl : ms.length = (bmName m).2) : Sim cx A ((Amb.vr cx b v).and (Amb.vrs cx ms vs)) (call (.builtin (bmAt m).2) (v :: vs)) (bmV m b ms) (Amb.vr cx) := by
  cases m with
  | append => exact bm_append b v ms vs hl
  | clear => exact bm_clear b v ms vs hl

set_option maxHeartbeats 4000000 in
mutual
theorem eok (G : Ground cx N A Φ l d) : ∀ (m : ME) (e : Expr) (env : Env) (sc : Scope) (ns : List (Option Str)) (Γ : Env'), ck N sc ns m e = true → Apart ns → Γ.length = ns.length → EOk cx A ((Amb.env cx env sc ns Γ).and (Amb.frames cx l)) Φ env Γ m e
  | .none, e, env, sc, ns, Γ, h, _, _ => by
    obtain ⟨k, pos, rfl⟩ := inv_none h
    refine EOk.of (fun H ρ s R p => ?_) rfl
    rw [evalE]
    exact simAt_pure R fun Q E k => wpAny_Constant_none (k _ s.toks .none)
  | .bool b, e, env, sc, ns, Γ, h, _, _ => by
    obtain ⟨k, pos, rfl⟩ := inv_bool h
    refine EOk.of (fun H ρ s R p => ?_) rfl
    rw [evalE]
    exact simAt_pure R fun Q E k => wpAny_Constant_bool (k _ s.toks (.bool b))
  | .int i, e, env, sc, ns, Γ, h, _, _ => by
    obtain ⟨k, pos, rfl⟩ := inv_int h
    refine EOk.of (fun H ρ s R p => ?_) rfl
    rw [evalE]
    exact simAt_pure R fun Q E k => wpAny_Constant_int (k _ _ (.int _ _))
  | .str v, e, env, sc, ns, Γ, h, _, _ => by
    obtain ⟨k, pos, rfl, z⟩ := inv_str h
    refine EOk.of (fun H ρ s R p => ?_) rfl
    rw [evalE]
    exact simAt_pure R fun Q E k => wpAny_Constant_str (k _ _ (.str _ _ (by rw [sizeLine_eq]; omega)))
  | .glob k, e, env, sc, ns, Γ, h, _, _ => by
    obtain ⟨x, pos, rfl, h1, h2⟩ := inv_glob h
    exact EOk.of (sim_glob G.base h1 h2 Φ).and1 rfl
  | .var i, e, env, sc, ns, Γ, h, _, _ => by
    obtain ⟨x, pos, rfl, h1⟩ := inv_var h
    exact EOk.of (sim_var h1 Φ).and1 rfl
  | .bin op a b, e, env, sc, ns, Γ, h, ha, hΓ => by
    obtain ⟨x, o, y, pos, rfl, h1, h2, h3⟩ := inv_bin h
    exact eok_bin h1 (eok G a x env sc ns Γ h2 ha hΓ) (eok G b y env sc ns Γ h3 ha hΓ)
  | .neg a, e, env, sc, ns, Γ, h, ha, hΓ => by
    obtain ⟨x, pos, rfl, h1⟩ := inv_neg h
    exact eok_neg (eok G a x env sc ns Γ h1 ha hΓ)
  | .not a, e, env, sc, ns, Γ, h, ha, hΓ => by
    obtain ⟨x, pos, rfl, h1⟩ := inv_not h
    exact eok_not (eok G a x env sc ns Γ h1 ha hΓ)
  | .and a b, e, env, sc, ns, Γ, h, ha, hΓ => by
    obtain ⟨x, y, rest, pos, rfl, h1, h2⟩ := inv_and h
    refine eok_and (eok G a x env sc ns Γ h1 ha hΓ) ?_
    rcases h2 with ⟨rfl, h2⟩ | h2
    · exact EOks.one (eok G b y env sc ns Γ h2 ha hΓ)
    · exact EOks.more (eok G b _ env sc ns Γ h2 ha hΓ)
  | .or a b, e, env, sc, ns, Γ, h, ha, hΓ => by
    obtain ⟨x, y, rest, pos, rfl, h1, h2⟩ := inv_or h
    refine eok_or (eok G a x env sc ns Γ h1 ha hΓ) ?_
    rcases h2 with ⟨rfl, h2⟩ | h2
    · exact EOks.one (eok G b y env sc ns Γ h2 ha hΓ)
    · exact EOks.more (eok G b _ env sc ns Γ h2 ha hΓ)
  | .cmp op a b, e, env, sc, ns, Γ, h, ha, hΓ => by
    obtain ⟨x, y, pos, rfl, h1, h2, h3⟩ := inv_cmp h
    exact eok_cmp G.u h3 (eok G a x env sc ns Γ h1 ha hΓ) (eok G b y env sc ns Γ h2 ha hΓ)
  | .cmp2 op1 op2 a b c, e, env, sc, ns, Γ, h, ha, hΓ => by
    obtain ⟨x, y, z, pos, rfl, h1, h2, h3, h4⟩ := inv_cmp2 h
    exact eok_cmp2 G.u h4 (eok G a x env sc ns Γ h1 ha hΓ) (eok G b y env sc ns Γ h2 ha hΓ) (eok G c z env sc ns Γ h3 ha hΓ)
  | .sub a i, e, env, sc, ns, Γ, h, ha, hΓ => by
    obtain ⟨x, y, pos, rfl, h1, h2⟩ := inv_sub h
    exact eok_sub G.u (eok G a x env sc ns Γ h1 ha hΓ) (eok G i y env sc ns Γ h2 ha hΓ)
  | .tup es, e, env, sc, ns, Γ, h, ha, hΓ => by
    obtain ⟨xs, k, pos, rfl, h1, h2⟩ := inv_tup h
    exact EOk.of (sim_tup (ckEs_plain h1) h2 (fun _ _ _ e => evalEs_length h1 e) (eoks G es xs env sc ns Γ h1 ha hΓ)) rfl
  | .list es, e, env, sc, ns, Γ, h, ha, hΓ => by
    obtain ⟨xs, pos, rfl, h1, h2⟩ := inv_list h
    exact EOk.of (sim_list (ckEs_plain h1) h2 (fun _ _ _ e => evalEs_length h1 e) (eoks G es xs env sc ns Γ h1 ha hΓ)) rfl
  | .call f es, e, env, sc, ns, Γ, h, ha, hΓ => by
    obtain ⟨x, np, xs, pos, rfl, h1, h2, h3, h4⟩ := inv_call h
    refine EOk.of ?_ rfl
    obtain ⟨mg, mb, ng, nb, q, _⟩ := G.base.ns
    obtain ⟨a, ha', _⟩ := q x f (hasNo_eq h2)
    exact sim_callU G.base G.funs G.room G.frames h1 h2 (G.defs f a ha') h3 (eoks G es xs env sc ns Γ h3 ha hΓ)
  | .bf f es, e, env, sc, ns, Γ, h, ha, hΓ => by
    obtain ⟨x, np, xs, pos, rfl, h1, h2, h3, h4⟩ := inv_bf h
    exact eok_bf G.base G.room.hh h1 h2 h3 h4 (eoks G es xs env sc ns Γ h4 ha hΓ)
  | .bm a m es, e, env, sc, ns, Γ, h, ha, hΓ => by
    obtain ⟨o, y, apos, xs, pos, rfl, h1, rfl, h3, h4, h5, h6⟩ := inv_bm h
    refine EOk.of ?_ rfl
    exact sim_bm h5 (ckEs_plain h4) (by rw [← h3]; cases m <;> decide) (fun e => ckEs_nil (e ▸ h4)) h6 (eok G a o env sc ns Γ h1 ha hΓ).val (eoks G es xs env sc ns Γ h4 ha hΓ)
      (fun b v ms vs hl => bm_one m b v ms vs (bm_len h3 hl)) (fun _ _ _ e => evalEs_length h4 e)
  | .isinst a t, e, env, sc, ns, Γ, h, ha, hΓ => by
    obtain ⟨f, np, x, y, yp, pos, rfl, h1, h2, h3, h4, h5⟩ := inv_isinst h
    have z := eok G a x env sc ns Γ h4 ha hΓ
    cases t with
    | cls c => cases h5
    | int => exact eok_isi G.base (fun c => by intro q; cases q) h1 h2 h3 (of_decide_eq_true (by simpa only [tyOk] using h5)) (ck_notStar h4) z
    | bool => exact eok_isi G.base (fun c => by intro q; cases q) h1 h2 h3 (of_decide_eq_true (by simpa only [tyOk] using h5)) (ck_notStar h4) z
    | str => exact eok_isi G.base (fun c => by intro q; cases q) h1 h2 h3 (of_decide_eq_true (by simpa only [tyOk] using h5)) (ck_notStar h4) z
    | tuple => exact eok_isi G.base (fun c => by intro q; cases q) h1 h2 h3 (of_decide_eq_true (by simpa only [tyOk] using h5)) (ck_notStar h4) z
    | list => exact eok_isi G.base (fun c => by intro q; cases q) h1 h2 h3 (of_decide_eq_true (by simpa only [tyOk] using h5)) (ck_notStar h4) z
  | .comp elt it cond, e, env, sc, ns, Γ, h, ha, hΓ => by
    obtain ⟨el, x, px, i, ifs, csc, pos, rfl, h1, h2, h3, h4, h5⟩ := inv_comp h
    exact eok_comp G.room.hh h2 h3 ha hΓ ⟨fun cenv Γ' hΓ' => econd G cond ifs cenv csc _ Γ' h5 (inner_inj ha (compOk_parts h3).2.1) hΓ', fun cenv Γ' hΓ' => (eok G elt el cenv csc _ Γ' h4 (inner_inj ha (compOk_parts h3).2.1) hΓ').val⟩ (eok G it i env sc ns Γ h1 ha hΓ)
theorem econd (G : Ground cx N A Φ l d) : ∀ (cond : MEo) (ifs : List Expr) (cenv : Env) (csc : Scope) (ns' : List (Option Str)) (Γ' : Env'), ckC N csc ns' cond ifs = true → Apart ns' → Γ'.length = ns'.length →
    Sim cx A ((Amb.env cx cenv csc ns' Γ').and (Amb.frames cx l)) (forIn ifs true fun c r => if r = true then do let ok ← isTrue c cenv (eval c cenv); pure (ForInStep.yield ok) else pure (ForInStep.yield r)) (evalC cx.T Φ cond Γ') BV
  | .none, [], cenv, csc, ns', Γ', h2, ha, hΓ => by
    intro H ρ s R p
    rw [evalC]
    exact wpAny_tests_nil ⟨ρ, Full.refl _ _, R, rfl⟩
  | .some c, [i], cenv, csc, ns', Γ', h2, ha, hΓ => by
    rw [evalC]
    exact (eok G c i cenv csc ns' Γ' (by simpa [ckC] using h2) ha hΓ).tru.pre fun Q E s h => wpAny_tests_one h
  | .none, _ :: _, cenv, csc, ns', Γ', h2, ha, hΓ => by simp [ckC] at h2
  | .some _, [], cenv, csc, ns', Γ', h2, ha, hΓ => by simp [ckC] at h2
  | .some _, _ :: _ :: _, cenv, csc, ns', Γ', h2, ha, hΓ => by simp [ckC] at h2
theorem eoks (G : Ground cx N A Φ l d) : ∀ (ms : MEs) (xs : List Expr) (env : Env) (sc : Scope) (ns : List (Option Str)) (Γ : Env'), ckEs N sc ns ms xs = true → Apart ns → Γ.length = ns.length →
    Sim cx A ((Amb.env cx env sc ns Γ).and (Amb.frames cx l)) (spliced (xs.map fun e => (false, eval e env))) (evalEs cx.T Φ ms Γ) (Amb.vrs cx)
  | .nil, [], env, sc, ns, Γ, h, ha, hΓ => sim_nil
  | .nil, _ :: _, env, sc, ns, Γ, h, ha, hΓ => by simp [ckEs] at h
  | .cons _ _, [], env, sc, ns, Γ, h, ha, hΓ => by simp [ckEs] at h
  | .cons m ms, x :: xs, env, sc, ns, Γ, h, ha, hΓ => by
    simp only [ckEs, Bool.and_eq_true] at h
    exact sim_cons (eok G m x env sc ns Γ h.1 ha hΓ).val (eoks G ms xs env sc ns Γ h.2 ha hΓ)
end
end
end Mine

-- part MExec
namespace Mine
open PySem
section
variable {cx : Cx} {N : Names} {A : Around} {Φ : Funs} {l : List Env} {d : Nat} {env : Env} {sc : Scope} {ns : List (Option Str)} {Γ : Env'} {H : Hp} {ρ ρ' : Rho} {s : Shared}

noncomputable def SimSK (cx : Cx) (env : Env) (sc : Scope) (ns : List (Option Str)) (r : ResS) (T : (Flow → Shared → Prop) → (Value → Shared → Prop) → Shared → Prop) (ρ : Rho) (s : Shared) : Prop :=
  match r with
  | .bad => True
  | .next Γ' H' => T (fun f s' => f = .next ∧ ∃ ρ', FullS env ρ s.heap ρ' s'.heap ∧ Rel cx H' ρ' s' ∧ EnvOk cx env sc ns Γ' ρ' s'.heap) (fun _ _ => False) s
  | .ret v H' => T (fun f s' => ∃ v' ρ', f = .ret v' ∧ FullS env ρ s.heap ρ' s'.heap ∧ Rel cx H' ρ' s' ∧ VR cx ρ' s'.heap v v') (fun _ _ => False) s
  | .exc c Γ' H' => T (fun _ _ => False) (fun e s' => ∃ ρ', FullS env ρ s.heap ρ' s'.heap ∧ Rel cx H' ρ' s' ∧ EnvOk cx env sc ns Γ' ρ' s'.heap ∧ Flying cx ρ' s.heap s'.heap c e) s
theorem SimSK.of {r : ResS} {t : Sem Flow} (x : SimSAt cx A env sc ns r t ρ s) : SimSK cx env sc ns r (fun Q E s => wpAny (model cx.prog cx.w) A t Q E s) ρ s := by cases r <;> exact x
theorem SimSK.to {r : ResS} {t : Sem Flow} (x : SimSK cx env sc ns r (fun Q E s => wpAny (model cx.prog cx.w) A t Q E s) ρ s) : SimSAt cx A env sc ns r t ρ s := by cases r <;> exact x
theorem SimSK.mono {r : ResS} {T T' : (Flow → Shared → Prop) → (Value → Shared → Prop) → Shared → Prop} (x : SimSK cx env sc ns r T ρ s) (k : ∀ Q E, T Q E s → T' Q E s) : SimSK cx env sc ns r T' ρ s := by cases r <;> first | trivial | exact k _ _ x
/- from a state that came by a step that keeps all but the frame -/
theorem SimSAt.bindK {α β : Type} {t : Sem α} {m : M β} {V : β → α → Amb} {g : β → Hp → ResS} {K : α → (Flow → Shared → Prop) → (Value → Shared → Prop) → Shared → Prop} {K' : (Flow → Shared → Prop) → (Value → Shared → Prop) → Shared → Prop} (e0 : EnvOk cx env sc ns Γ ρ s.heap) (x : SimAt cx A (m H) t V ρ s)
    (y : ∀ b a H' ρ' s', m H = .ok b H' → Full ρ s.heap ρ' s'.heap → Rel cx H' ρ' s' → EnvOk cx env sc ns Γ ρ' s'.heap → (V b a).P ρ' s'.heap → SimSK cx env sc ns (g b H') (K a) ρ' s')
    (mk : ∀ a, MonoK (K a))
    (k : ∀ Q E, wpAny (model cx.prog cx.w) A t (fun a s' => K a Q E s') E s → K' Q E s) :
    SimSK cx env sc ns (bndS m Γ g H) K' ρ s := by
  unfold bndS
  cases e : m H with
  | bad => trivial
  | exc c H' =>
    rw [e] at x
    exact k _ _ (wpAny_mono x (fun _ _ q => q.elim) fun ex s' ⟨ρ', F, R, fl⟩ => ⟨ρ', F.toS, R, e0.full F, fl⟩)
  | ok b H' =>
    rw [e] at x
    show SimSK cx env sc ns (g b H') K' ρ s
    cases e2 : g b H' with
    | bad => trivial
    | next Γ2 H2 =>
      refine k _ _ (wpAny_mono x (fun a s' ⟨ρ', F, R, v⟩ => ?_) fun _ _ q => q.elim)
      have z := y b a H' ρ' s' e F R (e0.full F) v
      rw [e2] at z
      exact mk a _ _ _ _ _ z (fun f s'' ⟨h1, ρ'', F', R', e'⟩ => ⟨h1, ρ'', F.toS.trans F', R', e'⟩) fun _ _ q => q.elim
    | ret v2 H2 =>
      refine k _ _ (wpAny_mono x (fun a s' ⟨ρ', F, R, v⟩ => ?_) fun _ _ q => q.elim)
      have z := y b a H' ρ' s' e F R (e0.full F) v
      rw [e2] at z
      exact mk a _ _ _ _ _ z (fun f s'' ⟨v', ρ'', h1, F', R', e'⟩ => ⟨v', ρ'', h1, F.toS.trans F', R', e'⟩) fun _ _ q => q.elim
    | exc c2 Γ2 H2 =>
      refine k _ _ (wpAny_mono x (fun a s' ⟨ρ', F, R, v⟩ => ?_) fun _ _ q => q.elim)
      have z := y b a H' ρ' s' e F R (e0.full F) v
      rw [e2] at z
      exact mk a _ _ _ _ _ z (fun _ _ q => q) fun ex s'' ⟨ρ'', F', R', e', fl⟩ => ⟨ρ'', F.toS.trans F', R', e', fl.older F.live⟩
theorem SimSK.look {β : Type} {f : Hp → Option β} {g : β → Hp → ResS} {K : (Flow → Shared → Prop) → (Value → Shared → Prop) → Shared → Prop} (y : ∀ b, f H = some b → SimSK cx env sc ns (g b H) K ρ s) : SimSK cx env sc ns (bndS (M.look f) Γ g H) K ρ s := by
  unfold bndS
  cases e : f H with
  | none => rw [look_none e]; trivial
  | some b => rw [look_some e]; exact y b e

theorem FramesOk.stmt {h h' : Heap} (fr : FramesOk cx l ρ h) (F : FullS env ρ h ρ' h') (e0 : EnvSt cx env sc ρ h) (e1 : EnvSt cx env sc ρ' h') : FramesOk cx l ρ' h' := fun en he => by
  obtain ⟨k, L, o, h1, h2, h3, h5, h6⟩ := fr en he
  by_cases q : L = env.locals
  · obtain ⟨m, o', es, ep, e', d, _⟩ := e1.loc
    rw [← q] at e'
    exact ⟨k, L, o', h1, h2, e', ⟨_, _, d⟩, by rw [q]; exact e1.locN⟩
  · obtain ⟨es, n, hd⟩ := h5
    obtain ⟨o', e', u⟩ := F.keep L o h3 h6 q (e0.notCell h3 fun v w => by rw [hd] at w; cases w)
    exact ⟨k, L, o', h1, h2, e', ⟨es, n, by rw [u.data]; exact hd⟩, F.grow.not h6 h3⟩

/- one statement, then the others -/
theorem sim_then {st : Stmt} {rest : List Stmt} {m : Env' → Hp → ResS} {g : Env' → Hp → ResS} (e0 : EnvOk cx env sc ns Γ ρ s.heap) (fr : FramesOk cx l ρ s.heap) (x : SimSAt cx A env sc ns (m Γ H) (exec st env) ρ s) (y : SimS cx A l env sc ns (execs rest env) g) :
    SimSAt cx A env sc ns (thenS (m Γ H) g) (execs (st :: rest) env) ρ s := by
  cases e : m Γ H with
  | bad => trivial
  | ret v H' =>
    rw [e] at x
    exact wpAny_execs_cons (wpAny_mono x (fun f s' q => by obtain ⟨v', ρ', rfl, q⟩ := q; exact ⟨v', ρ', rfl, q⟩) fun _ _ q => q)
  | exc c Γ' H' =>
    rw [e] at x
    exact wpAny_execs_cons (wpAny_mono x (fun f s' q => q.elim) fun _ _ q => q)
  | next Γ' H' =>
    rw [e] at x
    show SimSAt cx A env sc ns (g Γ' H') _ ρ s
    cases e2 : g Γ' H' with
    | bad => trivial
    | next Γ2 H2 =>
      refine wpAny_execs_cons (wpAny_mono x (fun f s' q => ?_) fun _ _ q => q.elim)
      obtain ⟨rfl, ρ', F, R, e'⟩ := q
      have z := y Γ' H' ρ' s' R e' (fr.stmt F e0.st e'.st)
      rw [e2] at z
      exact wpAny_mono z (fun f s'' ⟨h1, ρ'', F', R', e'⟩ => ⟨h1, ρ'', F.trans F', R', e'⟩) fun _ _ q => q.elim
    | ret v2 H2 =>
      refine wpAny_execs_cons (wpAny_mono x (fun f s' q => ?_) fun _ _ q => q.elim)
      obtain ⟨rfl, ρ', F, R, e'⟩ := q
      have z := y Γ' H' ρ' s' R e' (fr.stmt F e0.st e'.st)
      rw [e2] at z
      exact wpAny_mono z (fun f s'' ⟨v', ρ'', h1, F', R', e'⟩ => ⟨v', ρ'', h1, F.trans F', R', e'⟩) fun _ _ q => q.elim
    | exc c2 Γ2 H2 =>
      refine wpAny_execs_cons (wpAny_mono x (fun f s' q => ?_) fun _ _ q => q.elim)
      obtain ⟨rfl, ρ', F, R, e'⟩ := q
      have z := y Γ' H' ρ' s' R e' (fr.stmt F e0.st e'.st)
      rw [e2] at z
      exact wpAny_mono z (fun _ _ q => q.elim) fun ex s'' ⟨ρ'', F', R', e', fl⟩ => ⟨ρ'', F.trans F', R', e', fl.older F.live⟩

theorem sk_assign {i : Nat} {y : Str} {mv : Val} {v : Value} (ha : Apart ns) (R : Rel cx H ρ s) (e0 : EnvOk cx env sc ns Γ ρ s.heap) (ho : isOwn sc ns i y = true) (hv : VR cx ρ s.heap mv v) :
    SimSK cx env sc ns (.next (Γ.set i (some mv)) H) (fun Q E s => wpAny (model cx.prog cx.w) A (storeName env y v) (fun _ => Q .next) E s) ρ s :=
  store_var e0.len ha R e0 ho hv fun h' tk F' R' e' _ => ⟨rfl, ρ, F', R', e'⟩

theorem monoK_store {y : Str} {v : Value} : MonoK (α := Flow) fun Q E s => wpAny (model cx.prog cx.w) A (storeName env y v) (fun _ => Q .next) E s := fun _ _ _ _ _ h k1 k2 => wpAny_mono h (fun _ _ => k1 _ _) k2
end
end Mine

-- part MWalk
namespace Mine
open PySem
section
variable {cx : Cx} {N : Names} {A : Around} {Φ : Funs} {l : List Env} {d : Nat} {env : Env} {sc : Scope} {ns : List (Option Str)} {Γ : Env'} {H : Hp} {ρ ρ' : Rho} {s : Shared}

/- what a statement owes -/
noncomputable def PostS (cx : Cx) (env : Env) (sc : Scope) (ns : List (Option Str)) (ρ : Rho) (h : Heap) (r : ResS) (Q : Flow → Shared → Prop) (E : Value → Shared → Prop) : Prop :=
  match r with
  | .bad => True
  | .next Γ' H' => ∀ s' ρ', FullS env ρ h ρ' s'.heap → Rel cx H' ρ' s' → EnvOk cx env sc ns Γ' ρ' s'.heap → Q .next s'
  | .ret v H' => ∀ s' ρ' v', FullS env ρ h ρ' s'.heap → Rel cx H' ρ' s' → VR cx ρ' s'.heap v v' → Q (.ret v') s'
  | .exc c Γ' H' => ∀ e s' ρ', FullS env ρ h ρ' s'.heap → Rel cx H' ρ' s' → EnvOk cx env sc ns Γ' ρ' s'.heap → Flying cx ρ' h s'.heap c e → E e s'
theorem SimSK.ofPost {r : ResS} {T : (Flow → Shared → Prop) → (Value → Shared → Prop) → Shared → Prop} (k : ∀ Q E, r ≠ .bad → PostS cx env sc ns ρ s.heap r Q E → T Q E s) : SimSK cx env sc ns r T ρ s := by
  cases r with
  | bad => trivial
  | next Γ' H' => exact k _ _ (fun q => by cases q) fun s' ρ' F R e => ⟨rfl, ρ', F, R, e⟩
  | ret v H' => exact k _ _ (fun q => by cases q) fun s' ρ' v' F R e => ⟨v', ρ', rfl, F, R, e⟩
  | exc c Γ' H' => exact k _ _ (fun q => by cases q) fun e s' ρ' F R e' fl => ⟨ρ', F, R, e', fl⟩
/- objects that are new since h are turned -/
theorem FullS.fresh {h h1 h2 : Heap} {qs : List Addr} (F : FullS env ρ h ρ' h1) (hq : ∀ q ∈ qs, h.get? q = none) (hs : ∀ b o, b ∉ qs → ¬ Owned ρ' b → h1.get? b = some o → h2.get? b = some o) (lv : Live h1 h2) : FullS env ρ h ρ' h2 := by
  refine ⟨F.grow, fun b o e n n1 n2 => ?_, F.live.trans lv⟩
  obtain ⟨o', e', u⟩ := F.keep b o e n n1 n2
  refine ⟨o', hs b o' (fun w => ?_) (F.grow.not n e) e', u⟩
  rw [hq b w] at e; cases e
theorem EnvOk.priv {h h' : Heap} {qs : List Addr} (x : EnvOk cx env sc ns Γ ρ h) (hs : ∀ b o, b ∉ qs → ¬ Owned ρ b → h.get? b = some o → h'.get? b = some o) (hq : ∀ q ∈ qs, ∃ o, h.get? q = some o ∧ IterO o) (st : Step ρ h ρ h') : EnvOk cx env sc ns Γ ρ h' := by
  have nl : env.locals ∉ qs := fun w => by obtain ⟨o, e, i⟩ := hq _ w; exact x.st.notLoc e i.notDict rfl
  have nc : ∀ y c, env.cells.lookup y = some c → c ∉ qs := fun y c hc w => by obtain ⟨o, e, i⟩ := hq _ w; exact x.st.notCell e i.notCell y hc
  have kl : ∀ o, h.get? env.locals = some o → ∃ o', h'.get? env.locals = some o' ∧ o'.data = o.data := fun o e => ⟨o, hs _ o nl x.st.locN e, rfl⟩
  have kc : ∀ y c, env.cells.lookup y = some c → ∀ o, h.get? c = some o → ∃ o', h'.get? c = some o' ∧ o'.data = o.data := fun y c hc o e => ⟨o, hs _ o (nc y c hc) (x.st.cells y c hc).2.1 e, rfl⟩
  obtain ⟨m, hm⟩ := x.st.loc
  refine ⟨⟨x.st.fn, x.st.glob, x.st.blt, x.st.kinds, ⟨m, Heap_Ns_keep hm kl⟩, x.st.locN, x.st.locB, fun y c hc => ?_, x.st.hasCell, x.st.apart⟩, x.len, fun i y mv hi hm => ?_⟩
  · obtain ⟨⟨v, hv⟩, a, b⟩ := x.st.cells y c hc
    exact ⟨⟨v, IsCell_keep hv (kc y c hc)⟩, a, b⟩
  · obtain ⟨v, hv, r⟩ := x.vals i y mv hi hm
    refine ⟨v, ?_, r.step st⟩
    rcases hv with ⟨k, m, hm, e⟩ | ⟨k, c, hc, e⟩
    · exact .inl ⟨k, m, Heap_Ns_keep hm kl, e⟩
    · exact .inr ⟨k, c, hc, IsCell_keep e (kc y c hc)⟩

/- how a loop's items come -/
structure Walk (cx : Cx) (A : Around) (it : Value) (target : Expr) (xs : List Val) (ck : Hp → Bool) where
  Ok : Nat → Rho → Heap → Prop
  priv : List Addr
  obj : ∀ {i ρ h}, Ok i ρ h → ∀ q ∈ priv, (∃ o, h.get? q = some o ∧ IterO o) ∧ ¬ Owned ρ q
  step : ∀ {i ρ h ρ' h'}, Ok i ρ h → Step ρ h ρ' h' → (∀ q ∈ priv, (∀ o, h.get? q = some o → h'.get? q = some o) ∧ ¬ Owned ρ' q) → Ok i ρ' h'
  item : ∀ {i : Nat} {ρ : Rho} {H : Hp} {s : Shared} {m : Val} {Q : Value → Shared → Prop} {E E' : Value → Shared → Prop} {QQ : Option Value → Shared → Prop}, Rel cx H ρ s → Ok i ρ s.heap → ck H = true → xs[i]? = some m → (∀ q ∈ priv, cx.h₀.get? q = none) →
    (∀ v s₁, wpAny (model cx.prog cx.w) A (letOwnedTupleGo target it v) (fun _ s₂ => Q v s₂) E' s₁ → QQ (some v) s₁) →
    (∀ v h' tk, Rel cx H ρ { s with heap := h', toks := tk } → Step ρ s.heap ρ h' → (∀ b o, b ∉ priv → ¬ Owned ρ b → s.heap.get? b = some o → h'.get? b = some o) → Live s.heap h' → VR cx ρ h' m v → Ok (i + 1) ρ h' → Q v { s with heap := h', toks := tk }) →
    wpAny (model cx.prog cx.w) A (pyNext it) QQ E s
  fin : ∀ {i : Nat} {ρ : Rho} {H : Hp} {s : Shared} {Q : Option Value → Shared → Prop} {E : Value → Shared → Prop}, Rel cx H ρ s → Ok i ρ s.heap → ck H = true → xs[i]? = none → (∀ q ∈ priv, cx.h₀.get? q = none) →
    (∀ h' tk, Rel cx H ρ { s with heap := h', toks := tk } → Step ρ s.heap ρ h' → (∀ b o, b ∉ priv → ¬ Owned ρ b → s.heap.get? b = some o → h'.get? b = some o) → Q none { s with heap := h', toks := tk }) →
    wpAny (model cx.prog cx.w) A (pyNext it) Q E s

/- how a loop's target takes an item -/
noncomputable def BindOk (cx : Cx) (A : Around) (env : Env) (sc : Scope) (ns : List (Option Str)) (target : Expr) (bind : Val → Env' → Option Env') : Prop :=
  ∀ (Γ Γ' : Env') (H : Hp) (ρ : Rho) (s : Shared) (m : Val) (v : Value) (Q : Unit → Shared → Prop) (E : Value → Shared → Prop), bind m Γ = some Γ' → Rel cx H ρ s → EnvOk cx env sc ns Γ ρ s.heap → VR cx ρ s.heap m v →
    (∀ h' tk, FullS env ρ s.heap ρ h' → Rel cx H ρ { s with heap := h', toks := tk } → EnvOk cx env sc ns Γ' ρ h' → Q () { s with heap := h', toks := tk }) → wpAny (model cx.prog cx.w) A (assign target env v) Q E s

theorem bind_name {i : Nat} {y : Str} {py : Pos} (ha : Apart ns) (ho : isOwn sc ns i y = true) : BindOk cx A env sc ns (.Name y py) (bind1 i) := by
  intro Γ Γ' H ρ s m v Q E hb R e0 vr k
  cases hb
  exact wpAny_assign_Name (store_var e0.len ha R e0 ho vr fun h' tk F R' e' _ => k h' tk F R' e')

theorem sim_loop {it : Value} {target : Expr} {xs : List Val} {ck : Hp → Bool} {bind : Val → Env' → Option Env'} {body : MSs} {stmts : List Stmt} {ρ₁ : Rho} {s₁ : Shared} (W : Walk cx A it target xs ck) (hfr : A.frames = some (env :: l)) (hB : BindOk cx A env sc ns target bind)
    (hb : SimS cx A (env :: l) env sc ns (execs stmts env) (execSs cx.T Φ body))
    (e1 : EnvOk cx env sc ns Γ ρ₁ s₁.heap) (fr : FramesOk cx (env :: l) ρ₁ s₁.heap) (lvB : Live cx.h₀ s₁.heap) (hpriv : ∀ q ∈ W.priv, s₁.heap.get? q = none)
    {s : Shared} {H : Hp} {ρ : Rho} (F0 : FullS env ρ₁ s₁.heap ρ s.heap) (R0 : Rel cx H ρ s) (e0 : EnvOk cx env sc ns Γ ρ s.heap) (ok : W.Ok 0 ρ s.heap) {Q : Flow → Shared → Prop} {E : Value → Shared → Prop}
    (nb : eachL ck bind (execSs cx.T Φ body) xs Γ H ≠ .bad) (p : PostS cx env sc ns ρ₁ s₁.heap (eachL ck bind (execSs cx.T Φ body) xs Γ H) Q E) :
    codeAny (model cx.prog cx.w) A (.forLoop target it stmts [] env) (fun r s' => match r with | .ok f => Q f s' | .error e => cameBackBy (model cx.prog cx.w) A env E e s') s := by
  generalize hres : eachL ck bind (execSs cx.T Φ body) xs Γ H = res at nb p
  refine codeAny_forLoop_any (fun n s => ∃ i Γ H ρ, FullS env ρ₁ s₁.heap ρ s.heap ∧ Rel cx H ρ s ∧ EnvOk cx env sc ns Γ ρ s.heap ∧ W.Ok i ρ s.heap ∧ i ≤ xs.length ∧ n = xs.length + 1 - i ∧ eachL ck bind (execSs cx.T Φ body) (xs.drop i) Γ H = res) ?_ (xs.length + 1)
    ⟨0, Γ, H, ρ, F0, R0, e0, ok, Nat.zero_le _, rfl, hres⟩
  have privB : ∀ q ∈ W.priv, cx.h₀.get? q = none := fun q hq => lvB.none (hpriv q hq)
  clear F0 R0 e0 ok hres
  rintro n s ⟨i, Γ, H, ρ, F, R, e0, ok, hi, rfl, hr⟩
  cases hx : xs[i]? with
  | none =>
    rw [List.drop_eq_nil_of_le (List.getElem?_eq_none_iff.mp hx)] at hr
    unfold eachL at hr
    by_cases ckh : ck H = true
    · rw [if_pos ckh] at hr
      subst hr
      refine W.fin R ok ckh hx privB fun h' tk R' st ex => ?_
      refine wpAny_execs_nil ?_
      have e' : EnvOk cx env sc ns Γ ρ h' := e0.priv ex (fun q hq => (W.obj ok q hq).1) st
      have F' : FullS env ρ₁ s₁.heap ρ h' := by
        refine ⟨F.grow, fun b o e n n1 n2 => ?_, fun b o e => ?_⟩
        · obtain ⟨o', eo', u⟩ := F.keep b o e n n1 n2
          exact ⟨o', ex b o' (fun w => by rw [hpriv b w] at e; cases e) (F.grow.not n e) eo', u⟩
        · by_cases ow : Owned ρ b
          · exact R'.owned_lt ow
          · obtain ⟨o', eo'⟩ := F.live b o e
            exact ⟨o', ex b o' (fun w => by rw [hpriv b w] at e; cases e) ow eo'⟩
      exact p _ ρ F' R' e'
    · rw [if_neg ckh] at hr; exact absurd hr.symm nb
  | some m =>
    have lt : i < xs.length := (List.getElem?_eq_some_iff.mp hx).1
    have hdrop : xs.drop i = m :: xs.drop (i + 1) := by
      rw [List.drop_eq_getElem_cons lt]
      rw [List.getElem?_eq_getElem lt] at hx
      cases hx; rfl
    rw [hdrop] at hr
    unfold eachL at hr
    by_cases ckh : ck H = true
    · rw [if_pos ckh] at hr
      cases hbd : bind m Γ with
      | none => rw [hbd] at hr; exact absurd hr.symm nb
      | some Γ1 =>
        rw [hbd] at hr
        dsimp only at hr
        refine W.item R ok ckh hx privB (fun v s₁ h => h) fun v h' tk R' st ex lv vr ok' => ?_
        · -- what comes behind the item
          have e' : EnvOk cx env sc ns Γ ρ h' := e0.priv ex (fun q hq => (W.obj ok q hq).1) st
          have F' : FullS env ρ₁ s₁.heap ρ h' := F.fresh hpriv ex lv
          refine hB Γ Γ1 H ρ { s with heap := h', toks := tk } m v _ _ hbd R' e' vr fun h2 tk2 F2 R2 e2 => ?_
          have F12 : FullS env ρ₁ s₁.heap ρ h2 := F'.trans F2
          have priv2 : ∀ q ∈ W.priv, (∀ o, h'.get? q = some o → h2.get? q = some o) ∧ ¬ Owned ρ q := fun q hq => by
            obtain ⟨⟨o, eo, io⟩, no⟩ := W.obj ok' q hq
            refine ⟨fun o2 eo2 => ?_, no⟩
            rw [eo] at eo2; cases eo2
            obtain ⟨o3, eo3, u⟩ := F2.keep q o eo no (e'.st.notLoc eo io.notDict) (e'.st.notCell eo io.notCell)
            rw [eo3, u.exact io.notDict]
          have ok2 : W.Ok (i + 1) ρ h2 := W.step ok' (FullS.step e'.st F2) priv2
          have fr2 : FramesOk cx (env :: l) ρ h2 := fr.stmt F12 e1.st e2.st
          have B := hb Γ1 H ρ { s with heap := h2, toks := tk2 } R2 e2 fr2
          cases hbody : execSs cx.T Φ body Γ1 H with
          | bad => rw [hbody] at hr; exact absurd hr.symm nb
          | next Γ3 H3 =>
            rw [hbody] at hr B
            dsimp only [thenS] at hr
            refine wpAny_mono B (fun f s3 q => ?_) fun _ _ q => q.elim
            obtain ⟨rfl, ρ3, F3, R3, e3⟩ := q
            refine ⟨xs.length + 1 - (i + 1), by omega, i + 1, Γ3, H3, ρ3, F12.trans F3, R3, e3, ?_, lt, rfl, hr⟩
            refine W.step ok2 (FullS.step e2.st F3) fun q hq => ?_
            obtain ⟨⟨o, eo, io⟩, no⟩ := W.obj ok2 q hq
            refine ⟨fun o2 eo2 => ?_, F3.grow.not no eo⟩
            rw [eo] at eo2; cases eo2
            obtain ⟨o3, eo3, u⟩ := F3.keep q o eo no (e2.st.notLoc eo io.notDict) (e2.st.notCell eo io.notCell)
            rw [eo3, u.exact io.notDict]
          | ret v3 H3 =>
            rw [hbody] at hr B
            dsimp only [thenS] at hr
            subst hr
            refine wpAny_mono B (fun f s3 q => ?_) fun _ _ q => q.elim
            obtain ⟨v', ρ3, rfl, F3, R3, vr3⟩ := q
            exact p s3 ρ3 v' (F12.trans F3) R3 vr3
          | exc c3 Γ3 H3 =>
            rw [hbody] at hr B
            dsimp only [thenS] at hr
            exact absurd hr.symm nb
    · rw [if_neg ckh] at hr; exact absurd hr.symm nb

/- the plain iterators -/
noncomputable def plainWalk (hh : A.handled = none) (xs : List Val) (I : Addr) (src : Option Nat) (y : Str) (py : Pos) : Walk cx A (.ref I) (.Name y py) xs (chk src xs) where
  Ok i ρ h := ItOk cx xs I i ρ h src ∧ ¬ Owned ρ I
  priv := [I]
  obj := fun ⟨h1, h2⟩ q hq => by rw [List.mem_singleton.mp hq]; exact ⟨h1.obj, h2⟩
  step := fun ⟨h1, h2⟩ st k => ⟨h1.step st (k I (.head _)).1, (k I (.head _)).2⟩
  item := by
    intro i ρ H s m Q E E' QQ R ⟨ok, no⟩ ck hx hb qq k
    obtain ⟨o, e, io⟩ := ok.obj
    refine iter_item R ok ck hx fun v h' tk hs hl kk => qq v _ ?_
    obtain ⟨o', e'⟩ := hl
    have st : Step ρ s.heap ρ h' := Step.but e' e hs io.not.1 io.not.2
    obtain ⟨vr, ok'⟩ := kk st
    refine wpAny_pure (k v h' tk (R.but e' e hs io.not.1 io.not.2 no (hb I (.head _))) st (fun b o nb _ eb => by rw [hs.2 b (fun w => nb (w ▸ .head _))]; exact eb) (SameBut.live hs e') vr ⟨ok', no⟩)
  fin := by
    intro i ρ H s Q E R ⟨ok, no⟩ ck hx hb k
    obtain ⟨o, e, io⟩ := ok.obj
    refine iter_end hh R ok ck hx fun h' tk he => ?_
    exact k h' tk (R.ext e he io.not.1 io.not.2 no (hb I (.head _))) (Step.ext e he io.not.1 io.not.2) fun b o nb _ eb => he b o (fun w => nb (w ▸ .head _)) eb

theorem cameBack_mono {E E' : Value → Shared → Prop} {e : Value} {M : Model} (h : cameBackBy M A env E e s) (k : ∀ e s, E e s → E' e s) : cameBackBy M A env E' e s := wpAny_mono h (fun _ _ => k _ _) k

theorem sim_each {i : Nat} {it : ME} {body : MSs} {y : Str} {x : Expr} {stmts : List Stmt} {py pos : Pos} (hh : A.handled = none) (hfr : A.frames = some (env :: l)) (ha : Apart ns) (ho : isOwn sc ns i y = true) (hn : notSet x = true)
    (hx : ∀ Γ : Env', Γ.length = ns.length → EOk cx A ((Amb.env cx env sc ns Γ).and (Amb.frames cx (env :: l))) Φ env Γ it x) (hb : SimS cx A (env :: l) env sc ns (execs stmts env) (execSs cx.T Φ body)) :
    SimS cx A (env :: l) env sc ns (exec (.For (.Name y py) x stmts [] pos) env) (execS cx.T Φ (.each i it body)) := by
  intro Γ H ρ s R e0 fr
  rw [execS]
  refine SimSK.to ?_
  refine SimSAt.bindK (K := fun xv Q E s => wpAny (model cx.prog cx.w) A (pyIter xv) (fun it s₂ => codeAny (model cx.prog cx.w) A (.forLoop (.Name y py) it stmts [] env) (fun r s' => match r with | .ok f => Q f s' | .error e => cameBackBy (model cx.prog cx.w) A env E e s') s₂) E s) e0 ((hx Γ e0.len).val H ρ s R ⟨e0, fr⟩) ?_ ?_ ?_
  · intro v xv H1 ρ1 s1 _ F1 R1 e1 vr
    refine SimSK.look fun pr hp => ?_
    obtain ⟨xs, src⟩ := pr
    refine SimSK.ofPost fun Q E nb p => ?_
    refine iter_start R1 vr hp fun o go it0 => ?_
    have F2 : Full ρ1 s1.heap ρ1 (s1.heap.push o) := Full.push _ _ _
    exact sim_loop (plainWalk hh xs s1.heap.objs.size src y py) hfr (bind_name ha ho) hb e1 ((Amb.frames cx (env :: l)).st _ _ _ _ fr F1) (fun b o e => ⟨o, R1.base b o e⟩) (fun q hq => by rw [List.mem_singleton.mp hq]; exact fresh_none _) F2.toS (R1.push o s1.toks) (e1.full F2) ⟨it0, R1.fresh_not (fresh_none _)⟩ nb p
  · intro xv Q E Q' E' s h k1 k2
    exact wpAny_mono h (fun it s₂ h2 => codeAny_mono h2 fun r s' hr => by
      cases r with
      | ok f => exact k1 _ _ hr
      | error e => exact cameBack_mono hr k2) k2
  · intro Q E h
    exact wpAny_For h (fun xv => foldedSet_of hn env xv)
end
end Mine

-- part MZip
namespace Mine
open PySem
section
variable {cx : Cx} {N : Names} {A : Around} {Φ : Funs} {l : List Env} {d : Nat} {env : Env} {sc : Scope} {ns : List (Option Str)} {Γ : Env'} {H : Hp} {ρ ρ' : Rho} {s : Shared}

/- a hidden object, and some that no value leans on, are turned -/
theorem Rel.turn (R : Rel cx H ρ s) {l : Nat} {p : Addr × Addr} {o : HObj} {h' : Heap} {tk : Nat} (hl : ρ[l]? = some p) (hp : H[l]? = some o) (k : ∀ b ob, s.heap.get? b = some ob → Owned ρ b → b ≠ p.1 → b ≠ p.2 → h'.get? b = some ob) (st : Step ρ s.heap ρ h') (kb : ∀ b o, cx.h₀.get? b = some o → h'.get? b = some o) (x : HR cx ρ h' o p) :
    Rel cx H ρ { s with heap := h', toks := tk } := by
  refine ⟨R.len, fun i ob q hi hq => ?_, R.apart, R.new, R.high, kb, (by obtain ⟨o, e⟩ := R.sys; exact Heap.lt_size (kb _ o e)), R.sys, ?_⟩
  · by_cases e : i = l
    · subst e
      rw [hl] at hq; cases hq
      rw [hp] at hi; cases hi
      exact x
    · refine (R.objs i ob q hi hq).step st fun b ob' hb eb => ?_
      obtain ⟨⟨a1, a2⟩, a3, a4⟩ := R.apart i l q p e hq hl
      have ow : Owned ρ b := ⟨q, List.mem_of_getElem? hq, hb⟩
      rcases hb with rfl | rfl
      · exact k _ _ eb ow a1 a2
      · exact k _ _ eb ow a3 a4
  · obtain ⟨h, t, rfl⟩ := R.rest
    exact ⟨h', tk, rfl⟩

/- a pair is taken apart into two names -/
theorem bind_pair (hh : A.handled = none) {i j : Nat} {y z : Str} {py pz pt : Pos} {k : Nat} (ha : Apart ns) (hy : isOwn sc ns i y = true) (hz : isOwn sc ns j z = true) : BindOk cx A env sc ns (.Tuple [.Name y py, .Name z pz] k pt) (bind2 i j) := by
  intro Γ Γ' H ρ s m v Q E hb R e0 vr kk
  unfold bind2 at hb
  split at hb
  · rename_i a b
    cases hb
    cases vr with
    | @tup t vs n ms g no zz r =>
      cases r with
      | @cons _ va _ _ ra r =>
        cases r with
        | @cons _ vb _ _ rb r =>
          cases r
          refine wpAny_assign_Tuple (items := [va, vb].toArray) hh ⟨_, g, rfl, n, rfl⟩ rfl rfl fun h1 ex => ?_
          have kp : ∀ b o, s.heap.get? b = some o → h1.get? b = some o := fun b o e => ex b o (Nat.ne_of_lt (Heap.lt_size e)) e
          have F1 : Full ρ s.heap ρ h1 := Full.more kp
          have R1 : Rel cx H ρ { s with heap := h1 } := R.more (tk := s.toks) kp
          refine wpAny_assignInOrder_more (wpAny_assign_Name (store_var (s := { s with heap := h1 }) (e0.full F1).len ha R1 (e0.full F1) hy (ra.step F1.step) fun h2 tk2 F2 R2 e2 _ => ?_))
          have St2 := FullS.step (e0.full F1).st F2
          refine wpAny_assignInOrder_more (wpAny_assign_Name (store_var (s := { s with heap := h2, toks := tk2 }) e2.len ha R2 e2 hz ((rb.step F1.step).step St2) fun h3 tk3 F3 R3 e3 _ => ?_))
          exact wpAny_assignInOrder_none (kk h3 tk3 ((F1.toS.trans F2).trans F3) R3 e3)
  · cases hb

theorem zipO {h : Heap} {z TI TO : Addr} {f : Value} (x : IsZip h z TI TO f) : ∃ o, h.get? z = some o ∧ IterO o := ⟨_, x, ⟨_, rfl⟩, _, rfl, by decide⟩
theorem listIterO {h : Heap} {i l : Addr} {k : Nat} (x : h.IsListIter i l k) : ∃ o, h.get? i = some o ∧ IterO o := by obtain ⟨o, e, c, d⟩ := x; exact ⟨o, e, ⟨_, d⟩, _, c, by decide⟩
theorem iterO_ne {h : Heap} {a b : Addr} {o : Obj} (x : ∃ o, h.get? a = some o ∧ IterO o) (e : h.get? b = some o) (n : ∀ vs, o.data ≠ .fields vs) : a ≠ b := fun w => by
  obtain ⟨o', e', ⟨vs, d⟩, _⟩ := x
  rw [w, e] at e'; cases e'
  exact n vs d

/- the end of a zip whose first list is at its end -/
theorem zip_over {z TI TO i1 i2 l1 : Addr} {k1 : Nat} {xs : Array Value} {Q : Option Value → Shared → Prop} {E : Value → Shared → Prop} (hh : A.handled = none) (n1 : i1 ≠ z) (n2 : l1 ≠ z) (hz : IsZip s.heap z TI TO .none) (hTI : IsPair s.heap TI (.ref i1) (.ref i2))
    (h1 : s.heap.IsListIter i1 l1 k1) (hl1 : s.heap.IsList l1 xs) (hend : xs[k1]? = none)
    (hQ : ∀ h', (∀ c o, c ≠ z → c ≠ i1 → s.heap.get? c = some o → h'.get? c = some o) → Q none { s with heap := h' }) : wpAny (model cx.prog cx.w) A (pyNext (.ref z)) Q E s := by
  have hT : s.TypeIs (.ref z) "zip" := ⟨_, hz, rfl⟩
  have inner : wpAny (model cx.prog cx.w) A.in1 (Builtin.«zip.__next__» ⟨[.ref z], []⟩) (fun _ _ => False) (fun e s' => (∃ o a, e = .ref a ∧ s'.heap.get? a = some o ∧ o.cls = .type "StopIteration") ∧ ∃ h', s' = { s with heap := h' } ∧ (∀ c o, c ≠ z → c ≠ i1 → s.heap.get? c = some o → h'.get? c = some o)) s := by
    show wpAny _ _ (field (.ref z) 2 >>= _) _ _ _
    refine wpAny_bind (wpAny_field hz rfl (x := .bool false) rfl ?_)
    show wpAny _ _ (field (.ref z) 3 >>= _) _ _ _
    refine wpAny_bind (wpAny_field hz rfl (x := .ref TI) rfl ?_)
    refine wpAny_bind (wpAny_seqItems hTI rfl ?_)
    show wpAny _ _ (Builtin.SmallTypes.ownedTupleIsFree (.ref z) >>= _) _ _ _
    refine wpAny_bind ?_
    unfold Builtin.SmallTypes.ownedTupleIsFree
    refine wpAny_bind (wpAny_field hz rfl (x := .none) rfl (wpAny_pure ?_))
    simp only [if_true]
    refine wpAny_bind (wpAny_rule ?_)
    refine wpAny_bind (wpAny_field hz rfl (x := .ref TO) rfl ?_)
    refine wpAny_bind (wpAny_setField_rec hz (by simp) fun ha za sa => ?_)
    replace za : IsZip ha z TI TO .ellipsis := za
    refine wpAny_bind ?_
    simp only [List.zipIdx_cons, List.zipIdx_nil, List.forIn_cons, List.forIn_nil]
    refine wpAny_bind (wpAny_bind (wpAny_onRaise ?_))
    show wpAny _ _ (Builtin.SmallTypes.nextOf (.ref i1) >>= _) _ _ _
    refine wpAny_bind (wpAny_nextOf_list_end hh (h1.extBut sa.extBut n1) (hl1.extBut sa.extBut n2) hend fun hb e sb he => ?_)
    obtain ⟨oe, hoe, hce⟩ := he
    have zb : IsZip hb z TI TO .ellipsis := sb _ _ n1.symm za
    have hez : e ≠ z := fun x => by subst x; rw [zb] at hoe; cases hoe; simp at hce
    refine wpAny_setField_rec zb (by simp) fun hc _ sc => ⟨⟨oe, e, rfl, sc.extBut _ _ hez hoe, hce⟩, hc, rfl, fun c o c1 c2 x => sc.extBut _ _ c1 (sb _ _ c2 (sa.extBut _ _ c1 x))⟩
  unfold pyNext
  refine wpAny_bind (wpAny_attempt (wpAny_callSpecial?_slot (name := Str.ofString "__next__") hT F.slot_zip_next
    (wpAny_call_entry F.slot_zip_next hT F.entry_zip_next (wpAny_mono inner (fun _ _ q => q.elim) fun e s' q => ?_) (F.args_zip_next_1 _))))
  obtain ⟨⟨o, a, rfl, ho, hc⟩, h', rfl, hk⟩ := q
  refine wpAny_bind (wpAny_isInstance (T := "StopIteration") (b := true) ⟨o, ho, hc⟩ isSubtype_stop ?_)
  exact wpAny_pure (hQ _ hk)

theorem chk_list {l : Nat} {xs : List Val} {H : Hp} (h : chk (some l) xs H = true) : H[l]? = some (.list xs) := by
  simp only [chk] at h
  split at h
  · rename_i ys hl
    rw [hl, sames_eq _ _ h]
  · cases h
theorem isHid_eq {l : Nat} {H : Hp} (h : isHid l H = true) : H[l]? = some .hid := by
  unfold isHid at h
  split at h
  · assumption
  · cases h
theorem pairUp_get : ∀ {xs ys : List Val} {i : Nat} {m : Val}, (pairUp xs ys)[i]? = some m → ∃ a b, xs[i]? = some a ∧ ys[i]? = some b ∧ m = .tup [a, b]
  | [], _, _, _, h => by simp [pairUp] at h
  | _ :: _, [], _, _, h => by simp [pairUp] at h
  | a :: xs, b :: ys, 0, m, h => by simp [pairUp] at h; exact ⟨a, b, rfl, rfl, h.symm⟩
  | a :: xs, b :: ys, i + 1, m, h => by
    have h' : (pairUp xs ys)[i]? = some m := by simpa [pairUp] using h
    obtain ⟨a', b', h1, h2, h3⟩ := pairUp_get h'
    exact ⟨a', b', by simpa using h1, by simpa using h2, h3⟩
theorem pairUp_none : ∀ {xs ys : List Val} {i : Nat}, xs.length = ys.length → (pairUp xs ys)[i]? = none → xs[i]? = none
  | [], _, _, _, _ => by simp
  | _ :: _, [], _, hl, _ => by simp at hl
  | a :: xs, b :: ys, 0, _, h => by simp [pairUp] at h
  | a :: xs, b :: ys, i + 1, hl, h => by simp [pairUp] at h ⊢; have := pairUp_none (by simpa using hl) (by simpa using h); simpa using this

theorem Rel.hidAt (R : Rel cx H ρ s) {l : Nat} {p : Addr × Addr} (hH : H[l]? = some .hid) (hρ : ρ[l]? = some p) : p.2 = p.1 ∧ ∃ x y, s.heap.get? p.1 = some (tupO [x, y] 0) := by
  have := R.objs l _ p hH hρ
  generalize ho : HObj.hid = o at this
  cases this with
  | list e r z => cases ho
  | dict d r z => cases ho
  | inst _ _ _ _ _ _ _ _ _ => cases ho
  | hid e => exact ⟨rfl, _, _, e⟩

theorem step_priv {h h' : Heap} {qs : List Addr} (hq : ∀ q ∈ qs, Owned ρ q ∨ ∃ o, h.get? q = some o ∧ IterO o) (k : ∀ b o, b ∉ qs → h.get? b = some o → h'.get? b = some o) : Step ρ h ρ h' := by
  refine ⟨⟨[], by simp⟩, fun b o e f n => ⟨k b o (fun w => ?_) e, n⟩, fun b o C e f n => ⟨o, k b o (fun w => ?_) e, f, n⟩⟩
  · rcases hq b w with w | ⟨o', e', io⟩
    · exact n w
    · rw [e] at e'; cases e'; exact io.not.1 f
  · rcases hq b w with w | ⟨o', e', io⟩
    · exact n w
    · rw [e] at e'; cases e'; exact io.not.2 C f

structure ZOk (cx : Cx) (xs ys : List Val) (l1 l2 hl : Nat) (z TI i1 i2 : Addr) (i : Nat) (ρ : Rho) (h : Heap) : Prop where
  zip : ∃ TO, ρ[hl]? = some (TO, TO) ∧ IsZip h z TI TO .none
  ti : h.get? TI = some (tupO [.ref i1, .ref i2] 0) ∧ ¬ Owned ρ TI
  it1 : ∃ p, ρ[l1]? = some p ∧ h.IsListIter i1 p.1 i
  it2 : ∃ p, ρ[l2]? = some p ∧ h.IsListIter i2 p.1 i
  no : ¬ Owned ρ z ∧ ¬ Owned ρ i1 ∧ ¬ Owned ρ i2

noncomputable def zipWalk (hh : A.handled = none) (xs ys : List Val) (hlen : xs.length = ys.length) (l1 l2 hl : Nat) (z TI i1 i2 : Addr) (n1 : i1 ≠ z) (n2 : i2 ≠ z) (n12 : i1 ≠ i2) (elts : List Expr) (k : Nat) (pt : Pos) :
    Walk cx A (.ref z) (.Tuple elts k pt) (pairUp xs ys) (fun H' => chk (some l1) xs H' && chk (some l2) ys H' && isHid hl H') where
  Ok i ρ h := ZOk cx xs ys l1 l2 hl z TI i1 i2 i ρ h
  priv := [z, i1, i2]
  obj := by
    intro i ρ h ok q hq
    obtain ⟨TO, _, hz⟩ := ok.zip
    obtain ⟨p1, _, hi1⟩ := ok.it1
    obtain ⟨p2, _, hi2⟩ := ok.it2
    simp only [List.mem_cons, List.not_mem_nil, or_false] at hq
    rcases hq with rfl | rfl | rfl
    · exact ⟨zipO hz, ok.no.1⟩
    · exact ⟨listIterO hi1, ok.no.2.1⟩
    · exact ⟨listIterO hi2, ok.no.2.2⟩
  step := by
    intro i ρ h ρ' h' ok st kk
    obtain ⟨TO, ht, hz⟩ := ok.zip
    obtain ⟨p1, e1, hi1⟩ := ok.it1
    obtain ⟨p2, e2, hi2⟩ := ok.it2
    have kz := kk z (by simp)
    have k1 := kk i1 (by simp)
    have k2 := kk i2 (by simp)
    have kt := st.keepT _ _ ok.ti.1 (.inl ⟨rfl, _, _, rfl⟩) ok.ti.2
    exact ⟨⟨TO, st.get ht, kz.1 _ hz⟩, kt, ⟨p1, st.get e1, hi1.at k1.1⟩, ⟨p2, st.get e2, hi2.at k2.1⟩, kz.2, k1.2, k2.2⟩
  item := by
    intro i ρ H s m Q E E' QQ R ok ck hx hb qq kk
    simp only [Bool.and_eq_true] at ck
    obtain ⟨⟨ck1, ck2⟩, ck3⟩ := ck
    obtain ⟨TO, ht, hz⟩ := ok.zip
    obtain ⟨p1, e1, hi1⟩ := ok.it1
    obtain ⟨p2, e2, hi2⟩ := ok.it2
    have H1 := chk_list ck1
    have H2 := chk_list ck2
    have H3 := isHid_eq ck3
    obtain ⟨vs, nv, pp1, g1, r1, z1⟩ := R.listAt H1 e1
    obtain ⟨ws, nw, pp2, g2, r2, z2⟩ := R.listAt H2 e2
    obtain ⟨_, x0, y0, gTO⟩ := R.hidAt H3 ht
    obtain ⟨a, b, ha, hb', rfl⟩ := pairUp_get hx
    obtain ⟨va, eva, ra⟩ := r1.get ha
    obtain ⟨vb, evb, rb⟩ := r2.get hb'
    have oTO : Owned ρ TO := ⟨_, List.mem_of_getElem? ht, .inl rfl⟩
    have oL1 : Owned ρ p1.1 := ⟨_, List.mem_of_getElem? e1, .inl rfl⟩
    have oL2 : Owned ρ p2.1 := ⟨_, List.mem_of_getElem? e2, .inl rfl⟩
    have ne : ∀ {u v : Addr}, ¬ Owned ρ u → Owned ρ v → v ≠ u := fun n o w => n (w ▸ o)
    have hne1 : l1 ≠ hl := fun w => by rw [w, H3] at H1; cases H1
    have hne2 : l2 ≠ hl := fun w => by rw [w, H3] at H2; cases H2
    have tiD : ∀ vs', (tupO [Value.ref i1, Value.ref i2] 0).data ≠ .fields vs' := fun vs' q => by cases q
    have D : ZipApart z TI TO i1 i2 p1.1 p2.1 := ⟨(iterO_ne (zipO hz) ok.ti.1 tiD).symm, ne ok.no.1 oTO, n1, n2, (ne ok.ti.2 oTO).symm, (iterO_ne (listIterO hi1) ok.ti.1 tiD).symm, (iterO_ne (listIterO hi2) ok.ti.1 tiD).symm, ne ok.no.2.1 oTO, ne ok.no.2.2 oTO, n12,
      ne ok.no.1 oL1, (R.apart l1 hl _ _ hne1 e1 ht).1.1, ne ok.no.2.1 oL1, ne ok.no.2.2 oL1, ne ok.no.1 oL2, (R.apart l2 hl _ _ hne2 e2 ht).1.1, ne ok.no.2.1 oL2, ne ok.no.2.2 oL2⟩
    refine wpAny_pyNext_zip_item (xs := vs.toArray) (ys := ws.toArray) (x := va) (y := vb) D hz ok.ti.1 gTO hi1 hi2 ⟨_, g1, rfl, nv, rfl⟩ ⟨_, g2, rfl, nw, rfl⟩ (by simpa using eva) (by simpa using evb) fun h1 hz1 hTO1 hi1' hi2' hT1 hsz1 hk1 => qq _ _ ?_
    refine wpAny_letOwnedTupleGo_zip hz1 fun h2 hz2 hs2 => ?_
    have zT : s.heap.objs.size ≠ z := fun w => by have := Heap.lt_size hz; rw [← w] at this; exact Nat.lt_irrefl _ this
    have keep : ∀ b o, b ∉ [z, i1, i2, TO] → s.heap.get? b = some o → h2.get? b = some o := fun b o nb eb => by
      simp only [List.mem_cons, List.not_mem_nil, or_false, not_or] at nb
      exact hs2.extBut _ _ nb.1 (hk1 b o nb.1 nb.2.2.2 nb.2.1 nb.2.2.1 eb)
    have hTO2 : h2.get? TO = some (tupO [va, vb] 0) := hs2.extBut _ _ D.TOz hTO1
    have hT2 : h2.get? s.heap.objs.size = some (tupO [va, vb] 0) := hs2.extBut _ _ zT hT1
    have hi1'' := hi1'.extBut hs2.extBut n1
    have hi2'' := hi2'.extBut hs2.extBut n2
    have st : Step ρ s.heap ρ h2 := step_priv (qs := [z, i1, i2, TO]) (fun q hq => by
      simp only [List.mem_cons, List.not_mem_nil, or_false] at hq
      rcases hq with rfl | rfl | rfl | rfl
      · exact .inr (zipO hz)
      · exact .inr (listIterO hi1)
      · exact .inr (listIterO hi2)
      · exact .inl oTO) keep
    have ow : ∀ b, Owned ρ b → b ≠ z ∧ b ≠ i1 ∧ b ≠ i2 := fun b o => ⟨ne ok.no.1 o, ne ok.no.2.1 o, ne ok.no.2.2 o⟩
    have R2 : Rel cx H ρ { s with heap := h2, toks := s.toks } := by
      refine R.turn ht H3 (fun b ob eb o nb _ => keep b ob (by simp only [List.mem_cons, List.not_mem_nil, or_false, not_or]; exact ⟨(ow b o).1, (ow b o).2.1, (ow b o).2.2, nb⟩) eb) st (fun b o eb => ?_) (.hid hTO2)
      have nb : ¬ Owned ρ b := R.base_not eb
      refine keep b o ?_ (R.base b o eb)
      simp only [List.mem_cons, List.not_mem_nil, or_false, not_or]
      refine ⟨fun w => ?_, fun w => ?_, fun w => ?_, fun w => nb (w ▸ oTO)⟩
      · rw [w, hb z (by simp)] at eb; cases eb
      · rw [w, hb i1 (by simp)] at eb; cases eb
      · rw [w, hb i2 (by simp)] at eb; cases eb
    have lv : Live s.heap h2 := fun b o eb => by
      by_cases q : b ∈ [z, i1, i2, TO]
      · simp only [List.mem_cons, List.not_mem_nil, or_false] at q
        rcases q with rfl | rfl | rfl | rfl
        · exact ⟨_, hz2⟩
        · obtain ⟨o, e, _⟩ := hi1''; exact ⟨o, e⟩
        · obtain ⟨o, e, _⟩ := hi2''; exact ⟨o, e⟩
        · exact ⟨_, hTO2⟩
      · exact ⟨o, keep b o q eb⟩
    refine kk _ h2 s.toks R2 st (fun b o nb no eb => keep b o (by simp only [List.mem_cons, List.not_mem_nil, or_false, not_or] at nb ⊢; exact ⟨nb.1, nb.2.1, nb.2.2, fun w => no (w ▸ oTO)⟩) eb) lv ?_ ?_
    · exact .tup hT2 (R.fresh_not (fresh_none _)) (show 2 ≤ sizeLine by rw [sizeLine_eq]; decide) (.cons (ra.step st) (.cons (rb.step st) .nil))
    · have kt := st.keepT _ _ ok.ti.1 (.inl ⟨rfl, _, _, rfl⟩) ok.ti.2
      exact ⟨⟨TO, ht, hz2⟩, kt, ⟨p1, e1, hi1''⟩, ⟨p2, e2, hi2''⟩, ok.no⟩
  fin := by
    intro i ρ H s Q E R ok ck hx hb kk
    simp only [Bool.and_eq_true] at ck
    obtain ⟨⟨ck1, ck2⟩, ck3⟩ := ck
    obtain ⟨TO, ht, hz⟩ := ok.zip
    obtain ⟨p1, e1, hi1⟩ := ok.it1
    have H1 := chk_list ck1
    obtain ⟨vs, nv, pp1, g1, r1, z1⟩ := R.listAt H1 e1
    have oL1 : Owned ρ p1.1 := ⟨_, List.mem_of_getElem? e1, .inl rfl⟩
    have hn := pairUp_none hlen hx
    refine zip_over hh n1 (fun w => ok.no.1 (w ▸ oL1)) hz ok.ti.1 hi1 ⟨_, g1, rfl, nv, rfl⟩ (by rw [List.getElem?_eq_none_iff] at hn; have := r1.length; simp; omega) fun h' keep => ?_
    have keep' : ∀ b o, b ∉ [z, i1] → s.heap.get? b = some o → h'.get? b = some o := fun b o nb eb => by
      simp only [List.mem_cons, List.not_mem_nil, or_false, not_or] at nb
      exact keep b o nb.1 nb.2 eb
    have st : Step ρ s.heap ρ h' := step_priv (qs := [z, i1]) (fun q hq => by
      simp only [List.mem_cons, List.not_mem_nil, or_false] at hq
      rcases hq with rfl | rfl
      · exact .inr (zipO hz)
      · exact .inr (listIterO hi1)) keep'
    refine kk h' s.toks (R.same st (fun b o ow eb => keep b o (fun w => ok.no.1 (w ▸ ow)) (fun w => ok.no.2.1 (w ▸ ow)) eb) fun b o eb => keep b o (fun w => ?_) (fun w => ?_) (R.base b o eb)) st fun b o nb _ eb => keep' b o (fun w => nb ?_) eb
    · rw [w, hb z (by simp)] at eb; cases eb
    · rw [w, hb i1 (by simp)] at eb; cases eb
    · simp only [List.mem_cons, List.not_mem_nil, or_false] at w ⊢
      rcases w with w | w
      · exact .inl w
      · exact .inr (.inl w)
end
end Mine

-- part MFor
namespace Mine
open PySem
section
variable {cx : Cx} {N : Names} {A : Around} {Φ : Funs} {l : List Env} {d : Nat} {env : Env} {sc : Scope} {ns : List (Option Str)} {Γ : Env'} {H : Hp} {ρ ρ' : Rho} {s : Shared}

theorem listOf_eq {v : Val} {H : Hp} {xs : List Val} {l : Nat} (h : listOf v H = some (xs, l)) : v = .loc l ∧ H[l]? = some (.list xs) := by
  unfold listOf at h
  split at h
  · split at h
    · rename_i hl; cases h; exact ⟨rfl, hl⟩
    · cases h
  · cases h
theorem zip_mem : (("zip" : Str), Value.type "zip") ∈ bltTab := by
  unfold bltTab
  repeat (first | exact List.Mem.head _ | apply List.Mem.tail)
noncomputable abbrev loopK (cx : Cx) (A : Around) (env : Env) (target : Expr) (stmts : List Stmt) (zv : Value) : (Flow → Shared → Prop) → (Value → Shared → Prop) → Shared → Prop := fun Q E s =>
  wpAny (model cx.prog cx.w) A (pyIter zv) (fun it s₂ => codeAny (model cx.prog cx.w) A (.forLoop target it stmts [] env) (fun r s' => match r with | .ok f => Q f s' | .error e => cameBackBy (model cx.prog cx.w) A env E e s') s₂) E s
theorem loopK_mono {target : Expr} {stmts : List Stmt} {zv : Value} : MonoK (loopK cx A env target stmts zv) := by
  intro Q E Q' E' s h k1 k2
  exact wpAny_mono h (fun it s₂ h2 => codeAny_mono h2 fun r s' hr => by
    cases r with
    | ok f => exact k1 _ _ hr
    | error e => exact cameBack_mono hr k2) k2

theorem sim_eachZip (B : Base cx N) {i j : Nat} {a b : ME} {body : MSs} {y z f : Str} {p q : Expr} {stmts : List Stmt} {py pz pt fp cp pos : Pos} {kk : Nat} (hh : A.handled = none) (hfr : A.frames = some (env :: l)) (ha : Apart ns) (hy : isOwn sc ns i y = true) (hz : isOwn sc ns j z = true)
    (hg : isGlob sc f = true) (hf : f = ("zip" : Str)) (np : notStar p = true) (nq : notStar q = true)
    (hp : ∀ Γ : Env', Γ.length = ns.length → EOk cx A ((Amb.env cx env sc ns Γ).and (Amb.frames cx (env :: l))) Φ env Γ a p) (hq : ∀ Γ : Env', Γ.length = ns.length → EOk cx A ((Amb.env cx env sc ns Γ).and (Amb.frames cx (env :: l))) Φ env Γ b q)
    (hb : SimS cx A (env :: l) env sc ns (execs stmts env) (execSs cx.T Φ body)) :
    SimS cx A (env :: l) env sc ns (exec (.For (.Tuple [.Name y py, .Name z pz] kk pt) (.Call (.Name f fp) [p, q] [] cp) stmts [] pos) env) (execS cx.T Φ (.eachZip i j a b body)) := by
  obtain ⟨mg, mb, ng, nb', _, _, _, tab⟩ := B.ns
  have q12 : mg ("zip" : Str) = none ∧ mb ("zip" : Str) = some (.type "zip") := tab _ zip_mem
  obtain ⟨q1, q2⟩ := q12
  rw [← hf] at q1 q2
  intro Γ H ρ s R e0 fr
  rw [execS]
  refine SimSK.to ?_
  refine SimSAt.bindK (K := fun va Q E s => wpAny (model cx.prog cx.w) A (eval q env) (fun vb s' => wpAny (model cx.prog cx.w) A (call (.type "zip") [va, vb]) (fun zv s'' => loopK cx A env (.Tuple [.Name y py, .Name z pz] kk pt) stmts zv Q E s'') E s') E s) e0 ((hp Γ e0.len).val H ρ s R ⟨e0, fr⟩) ?_ ?_ ?_
  · intro v va H1 ρ1 s1 _ F1 R1 e1 vr1
    have fr1 : FramesOk cx (env :: l) ρ1 s1.heap := fr.full F1
    refine SimSAt.bindK (K' := fun Q E s => wpAny (model cx.prog cx.w) A (eval q env) (fun vb s' => wpAny (model cx.prog cx.w) A (call (.type "zip") [va, vb]) (fun zv s'' => loopK cx A env (.Tuple [.Name y py, .Name z pz] kk pt) stmts zv Q E s'') E s') E s)
      (K := fun vb Q E s => wpAny (model cx.prog cx.w) A (call (.type "zip") [va, vb]) (fun zv s'' => loopK cx A env (.Tuple [.Name y py, .Name z pz] kk pt) stmts zv Q E s'') E s) e1 ((hq Γ e1.len).val H1 ρ1 s1 R1 ⟨e1, fr1⟩) ?_ ?_ fun Q E h => h
    · intro w vb H2 ρ2 s2 _ F2 R2 e2 vr2
      have fr2 : FramesOk cx (env :: l) ρ2 s2.heap := fr1.full F2
      have vr1' : VR cx ρ2 s2.heap v va := vr1.step F2.step
      refine SimSK.look fun pr1 h1 => SimSK.look fun pr2 h2 => ?_
      obtain ⟨xs, l1⟩ := pr1
      obtain ⟨ys, l2⟩ := pr2
      dsimp only
      by_cases hlen : xs.length = ys.length
      · rw [if_pos hlen]
        obtain ⟨rfl, H1'⟩ := listOf_eq h1
        obtain ⟨rfl, H2'⟩ := listOf_eq h2
        refine SimSK.ofPost fun Q E nb p => ?_
        cases vr1' with
        | @loc _ p1 e1' =>
          cases vr2 with
          | @loc _ p2 e2' =>
            obtain ⟨vs, nv, pp1, g1, r1, z1⟩ := R2.listAt H1' e1'
            obtain ⟨ws, nw, pp2, g2, r2, z2⟩ := R2.listAt H2' e2'
            refine call_zip_2 (xs := vs.toArray) (ys := ws.toArray) ⟨_, g1, rfl, nv, rfl⟩ ⟨_, g2, rfl, nw, rfl⟩ fun h3 hz3 hTI3 hTO3 hi1 hi2 hsz kp => ?_
            refine wpAny_pyIter_zip hz3 ?_
            have fresh : ∀ k, s2.heap.get? (s2.heap.objs.size + k) = none := fun k => fresh_le (Nat.le_add_right _ _)
            obtain ⟨F3, R3⟩ := R2.alloc (tk := s2.toks) (o := .hid) (p := (s2.heap.objs.size + 3, s2.heap.objs.size + 3)) kp ⟨fresh 3, fresh 3⟩ (Nat.le_add_right _ _) (.hid hTO3)
            have nof : ∀ k, k ≠ 3 → ¬ Owned (ρ2 ++ [(s2.heap.objs.size + 3, s2.heap.objs.size + 3)]) (s2.heap.objs.size + k) := fun k hk ⟨p, hp, h⟩ => by
              rcases List.mem_append.mp hp with hp | hp
              · exact R2.fresh_not (fresh k) ⟨p, hp, h⟩
              · rw [List.mem_singleton.mp hp] at h
                have : s2.heap.objs.size + k = s2.heap.objs.size + 3 := by rcases h with h | h <;> exact h
                exact hk (Nat.add_left_cancel this)
            have lt1 : l1 < ρ2.length := (List.getElem?_eq_some_iff.mp e1').1
            have lt2 : l2 < ρ2.length := (List.getElem?_eq_some_iff.mp e2').1
            refine sim_loop (zipWalk hh xs ys hlen l1 l2 H2.length (s2.heap.objs.size + 4) (s2.heap.objs.size + 2) s2.heap.objs.size (s2.heap.objs.size + 1) (Nat.ne_of_lt (by omega)) (Nat.ne_of_lt (by omega)) (Nat.ne_of_lt (Nat.lt_succ_self _)) [.Name y py, .Name z pz] kk pt) hfr (bind_pair hh ha hy hz) hb e2 fr2 (fun b o e => ⟨o, R2.base b o e⟩) ?_ F3.toS R3 (e2.full F3) ?_ nb p
            · intro q hq
              have hq' : q = s2.heap.objs.size + 4 ∨ q = s2.heap.objs.size ∨ q = s2.heap.objs.size + 1 := by
                have hq2 : q ∈ [s2.heap.objs.size + 4, s2.heap.objs.size, s2.heap.objs.size + 1] := hq
                simpa using hq2
              rcases hq' with rfl | rfl | rfl
              · exact fresh 4
              · exact fresh 0
              · exact fresh 1
            · exact ⟨⟨_, by rw [R2.len, List.getElem?_append_right (Nat.le_refl _)]; simp, hz3⟩, ⟨hTI3, nof 2 (by decide)⟩, ⟨p1, by rw [List.getElem?_append_left lt1]; exact e1', hi1⟩, ⟨p2, by rw [List.getElem?_append_left lt2]; exact e2', hi2⟩, nof 4 (by decide), nof 0 (by decide), nof 1 (by decide)⟩
      · rw [if_neg hlen]; trivial
    · intro vb Q E Q' E' s h k1 k2
      exact wpAny_mono h (fun zv s'' h' => loopK_mono _ _ _ _ _ h' k1 k2) k2
  · intro va Q E Q' E' s h k1 k2
    exact wpAny_mono h (fun vb s' h' => wpAny_mono h' (fun zv s'' h'' => loopK_mono _ _ _ _ _ h'' k1 k2) k2) k2
  · intro Q E h
    refine wpAny_For ?_ (fun xv => rfl)
    refine wpAny_Call_ofName (wp_glob R e0.st hg ng nb' (v := .type "zip") (.inr ⟨q1, q2⟩) ?_)
    have pl : plainArgs env [p, q] := ⟨starEach_plain np, starEach_plain nq, trivial⟩
    rw [plainArgs_trees cp pl]
    refine PyProof.Rows.callWith_type (any_false _) (Calls.evalArgs_plain (Calls.spliced_cons (wpAny_mono h (fun v s' h' => ?_) fun _ _ q => q)))
    exact Calls.spliced_cons (wpAny_mono h' (fun w s'' h'' => Calls.spliced_nil h'') fun _ _ q => q)

/-! ## enumerate -/
end
end Mine

-- part MAssign
namespace Mine
open PySem
section
variable {cx : Cx} {N : Names} {A : Around} {Φ : Funs} {l : List Env} {d : Nat} {env : Env} {sc csc : Scope} {ns : List (Option Str)} {Γ : Env'} {H : Hp} {ρ ρ' : Rho} {s : Shared}

theorem swaps_not {m : ME} {x : Expr} {t : Option Expr} {ln : Nat} (h : ck N sc ns m x = true) (hm : ∀ a b c, m ≠ .comp a b c) : swapsWith x t ln env = pure false := by
  have z := ck_head h
  have hc : isComp m = false := by cases m <;> first | rfl | exact absurd rfl (hm _ _ _)
  rw [hc] at z
  cases x <;> first | rfl | cases z

theorem swaps_name {x : Expr} {y : Str} {py : Pos} {ln : Nat} : swapsWith x (some (.Name y py)) ln env = pure true ∨ swapsWith x (some (.Name y py)) ln env = pure false := by
  have : ∃ b, swapsWith x (some (.Name y py)) ln env = pure b := by cases x <;> exact ⟨_, rfl⟩
  obtain ⟨b, e⟩ := this
  cases b
  · exact .inr e
  · exact .inl e

theorem sim_assign_plain {i : Nat} {m : ME} {y : Str} {x : Expr} {py pos : Pos} (ha : Apart ns) (ho : isOwn sc ns i y = true) (hs : swapsWith x (some (.Name y py)) pos.line env = pure false)
    (hx : ∀ Γ : Env', Γ.length = ns.length → EOk cx A ((Amb.env cx env sc ns Γ).and (Amb.frames cx l)) Φ env Γ m x) :
    SimS cx A l env sc ns (exec (.Assign [.Name y py] x pos) env) (execS cx.T Φ (.assign i m)) := by
  intro Γ H ρ s R e0 fr
  rw [execS]
  refine SimSK.to (SimSAt.bindK (K := fun v Q E s => wpAny (model cx.prog cx.w) A (storeName env y v) (fun _ => Q .next) E s) e0 ((hx Γ e0.len).val H ρ s R ⟨e0, fr⟩) (fun b v H1 ρ1 s1 _ F1 R1 e1 vr => sk_assign ha R1 e1 ho vr) (fun _ => monoK_store) fun Q E h => wpAny_Assign_Name h hs)

theorem sim_assign_comp (hh : A.handled = none) {i : Nat} {elt it : ME} {cond : MEo} {e x : Expr} {t y : Str} {ifs : List Expr} {tp py cp pos : Pos} (ha : Apart ns) (ho : isOwn sc ns i y = true) (hs : swapsWith (.ListComp e [⟨.Name t tp, x, ifs, 0⟩] csc cp) (some (.Name y py)) pos.line env = pure true) (hi : notSet x = true) (hc : compOk sc csc t = true)
    (pt : CParts cx A Φ l csc (inner csc ns ++ [some t]) cond elt ifs e) (hx : ∀ Γ : Env', Γ.length = ns.length → EOk cx A ((Amb.env cx env sc ns Γ).and (Amb.frames cx l)) Φ env Γ it x) :
    SimS cx A l env sc ns (exec (.Assign [.Name y py] (.ListComp e [⟨.Name t tp, x, ifs, 0⟩] csc cp) pos) env) (execS cx.T Φ (.assign i (.comp elt it cond))) := by
  obtain ⟨c1, c2, c3⟩ := compOk_parts hc
  intro Γ H ρ s R e0 fr
  rw [execS, comp_eval]
  have assoc : ∀ (m : M Val) (f : Val → M Val) (g : Val → Hp → ResS) (H : Hp), bndS (m.bnd f) Γ g H = bndS m Γ (fun v => bndS (f v) Γ g) H := by
    intro m f g H
    unfold bndS M.bnd
    cases m H <;> rfl
  rw [assoc]
  refine SimSK.to (SimSAt.bindK (K := fun xv Q E s => wpAny (model cx.prog cx.w) A (pyIter xv) (fun it s₂ => wpAny (model cx.prog cx.w) A (newList []) (fun acc s₃ => wpAny (model cx.prog cx.w) A (newFunctionEnv csc env.globals (cloOf env csc.names []) [] env.qual none .none (some env)) (fun cenv s₄ =>
      codeAny (model cx.prog cx.w) A (.compStart (.ListComp e [⟨.Name t tp, x, ifs, 0⟩] csc cp) 0 it acc { cenv with scope := relabel csc env }) (compPost (model cx.prog cx.w) A E (some (assign (.Name y py) env)) (fun _ s' => Q .next s') acc cenv.locals) s₄) E s₃) E s₂) E s) e0 ((hx Γ e0.len).val H ρ s R ⟨e0, fr⟩) ?_ ?_ ?_)
  · intro v xv H1 ρ1 s1 _ F1 R1 e1 vr
    rcases compRest_cases (T := cx.T) (Φ := Φ) (cond := cond) (elt := elt) (Γ := Γ) (v := v) (H := H1) with w | ⟨xs, src, ys, H₂, w1, w2, w3, w4⟩
    · unfold bndS; rw [w]; trivial
    · unfold bndS; rw [w4]
      refine comp_block hh hc ha e1.len pt R1 e1 ((Amb.frames cx l).st _ _ _ _ fr F1) vr w1 w2 w3 fun D C ρ' s' F' R' v' m' n' hC => ?_
      obtain ⟨m, hm⟩ := m'
      have e' := e1.full F'
      have lvB : Live cx.h₀ s1.heap := fun b o e => ⟨o, R1.base b o e⟩
      show wpAny (model cx.prog cx.w) A (assign (.Name y py) env (.ref D)) _ _ _
      refine wpAny_assign_Name (store_var e'.len ha R' e' ho v' fun h2 tk2 F2 R2 e2 hq => ?_)
      obtain ⟨q, oq, hqd, hqs, gq⟩ := hq
      have live : ∀ {b : Addr}, (∃ o, s1.heap.get? b = some o) → b ≠ C := fun ⟨o, eo⟩ w => by rw [w, hC] at eo; cases eo
      have locL : env.locals ≠ C := live (by obtain ⟨m, o, es, ep, e, _⟩ := e1.st.loc; exact ⟨o, e⟩)
      have celL : ∀ z c, env.cells.lookup z = some c → c ≠ C := fun z c hc => live (by obtain ⟨⟨v, o, e, _⟩, _⟩ := e1.st.cells z c hc; exact ⟨o, e⟩)
      have qC : C ≠ q := by
        rcases hqd with ⟨_, rfl⟩ | ⟨_, w⟩
        · exact locL.symm
        · exact (celL y q w).symm
      have hm2 : h2.Ns C m := Heap_Ns_keep hm fun o eo => ⟨o, by rw [hqs.2 C qC]; exact eo, rfl⟩
      obtain ⟨oC, gC, nf, nx⟩ := nsO_not hm2
      refine ⟨m, hm2, fun h3 hs3 => ?_⟩
      have st : Step ρ' h2 ρ' h3 := Step.ext gC hs3.extBut nf nx
      have FF : FullS env ρ1 s1.heap ρ' h2 := F'.toS.trans F2
      refine ⟨rfl, ρ', ?_, R2.ext (tk := tk2) gC hs3.extBut nf nx n' (lvB.none hC), e2.but hs3.extBut locL.symm (fun z w => celL z C w rfl) st⟩
      refine ⟨FF.grow, fun b o eb n n1 n2 => ?_, fun b o eb => ?_⟩
      · obtain ⟨o', e', u⟩ := FF.keep b o eb n n1 n2
        exact ⟨o', hs3.extBut b o' (live ⟨o, eb⟩) e', u⟩
      · obtain ⟨o', e'⟩ := FF.live b o eb
        exact ⟨o', hs3.extBut b o' (live ⟨o, eb⟩) e'⟩
  · intro xv Q E Q' E' s h k1 k2
    exact wpAny_mono h (fun it s₂ h2 => wpAny_mono h2 (fun acc s₃ h3 => wpAny_mono h3 (fun cenv s₄ h4 => codeAny_mono h4 fun r s' hr => compPost_mono hr (fun _ s => k1 _ s) k2) k2) k2) k2
  · intro Q E h
    rw [exec_Assign_Name_used _ _ _ _ hs]
    refine wpAny_bind (wpAny_standAt (wpAny_bind ?_))
    show wpAny _ A (do let _ ← comprehension (.ListComp e [⟨.Name t tp, x, ifs, 0⟩] csc cp) csc env _ (newList []) false (eval x env) (some (assign (.Name y py) env))) _ _ s
    refine wpAny_bind (wpAny_mono (wpAny_comprehension_free (use := some (assign (.Name y py) env)) (Q := fun _ s' => Q .next s') (g := ⟨.Name t tp, x, ifs, 0⟩) (gs := []) rfl (fun xv => foldedSet_of hi env xv)
      (closureFor_eq fun p' hp' hf => e0.st.hasCell p'.1 (by rcases (c3 p' hp').2 hf with w | w; exact .inl w; exact .inr w)) c1 (fun p' hp' hl => by rw [(c3 p' hp').1, hl]) h) (fun _ s' hq => wpAny_pure (wpAny_pure hq)) fun _ _ e => e)

theorem sim_assign (G : Ground cx N A Φ l d) {i : Nat} {m : ME} {y : Str} {x : Expr} {py pos : Pos} (ha : Apart ns) (ho : isOwn sc ns i y = true) (hm : ck N sc ns m x = true) :
    SimS cx A l env sc ns (exec (.Assign [.Name y py] x pos) env) (execS cx.T Φ (.assign i m)) := by
  rcases swaps_name (env := env) (x := x) (y := y) (py := py) (ln := pos.line) with hs | hs
  · by_cases hc : ∃ a b c, m = .comp a b c
    · obtain ⟨elt, it, cond, rfl⟩ := hc
      obtain ⟨el, t, px, i', ifs, csc, cp, rfl, h1, h2, h3, h4, h5⟩ := inv_comp hm
      exact sim_assign_comp G.room.hh ha ho hs h2 h3 ⟨fun cenv Γ' hΓ' => econd G cond ifs cenv csc _ Γ' h5 (inner_inj ha (compOk_parts h3).2.1) hΓ', fun cenv Γ' hΓ' => (eok G elt el cenv csc _ Γ' h4 (inner_inj ha (compOk_parts h3).2.1) hΓ').val⟩
        fun Γ hΓ => eok G it i' env sc ns Γ h1 ha hΓ
    · have := swaps_not (env := env) (t := some (.Name y py)) (ln := pos.line) hm fun a b c w => hc ⟨a, b, c, w⟩
      exact sim_assign_plain ha ho this fun Γ hΓ => eok G m x env sc ns Γ hm ha hΓ
  · exact sim_assign_plain ha ho hs fun Γ hΓ => eok G m x env sc ns Γ hm ha hΓ
end
end Mine

-- part MBody
namespace Mine
open PySem
section
variable {cx : Cx} {N : Names} {A : Around} {Φ : Funs} {l : List Env} {d : Nat} {env : Env} {sc : Scope} {ns : List (Option Str)} {Γ : Env'} {H : Hp} {ρ ρ' : Rho} {s : Shared}

theorem sim_expr (G : Ground cx N A Φ l d) {m : ME} {x : Expr} {pos : Pos} (ha : Apart ns) (hm : ck N sc ns m x = true) (hc : notComp m = true) : SimS cx A l env sc ns (exec (.Expr x pos) env) (execS cx.T Φ (.expr m)) := by
  intro Γ H ρ s R e0 fr
  rw [execS]
  have nc : ∀ a b c, m ≠ .comp a b c := fun a b c q => by subst q; cases hc
  refine SimSK.to (SimSAt.bindK (K := fun _ Q _ s => Q .next s) e0 ((eok G m x env sc ns Γ hm ha e0.len).val H ρ s R ⟨e0, fr⟩) (fun b v H1 ρ1 s1 _ F1 R1 e1 vr => ⟨rfl, ρ1, FullS.refl _ _ _, R1, e1⟩) (fun _ Q E Q' E' s h k1 _ => k1 _ _ h) fun Q E h => ?_)
  refine wpAny_Expr_any h ?_ (swaps_not hm nc)
  unfold interactive
  rw [e0.st.fn]; rfl
theorem sim_ret (G : Ground cx N A Φ l d) {m : MEo} {x : Option Expr} {pos : Pos} (ha : Apart ns) (hm : ckO N sc ns m x = true) : SimS cx A l env sc ns (exec (.Return x pos) env) (execS cx.T Φ (.ret m)) := by
  intro Γ H ρ s R e0 fr
  rw [execS]
  match m, x, hm with
  | .none, none, _ =>
    rw [evalO]
    exact wpAny_Return_none ⟨_, ρ, rfl, FullS.refl _ _ _, R, .none⟩
  | .some e, some x, hm =>
    rw [evalO]
    exact SimSK.to (SimSAt.bindK (K := fun v Q _ s => Q (.ret v) s) e0 ((eok G e x env sc ns Γ (by simpa [ckO] using hm) ha e0.len).val H ρ s R ⟨e0, fr⟩) (fun b v H1 ρ1 s1 _ F1 R1 e1 vr => ⟨v, ρ1, rfl, FullS.refl _ _ _, R1, vr⟩) (fun _ Q E Q' E' s h k1 _ => k1 _ _ h) fun Q E h => wpAny_Return_some h)
  | .none, some _, h => simp [ckO] at h
  | .some _, none, h => simp [ckO] at h
theorem sim_ite (G : Ground cx N A Φ l d) {c : ME} {t f : MSs} {x : Expr} {ts fs : List Stmt} {pos : Pos} (ha : Apart ns) (hm : ck N sc ns c x = true) (ht : SimS cx A l env sc ns (execs ts env) (execSs cx.T Φ t)) (hf : SimS cx A l env sc ns (execs fs env) (execSs cx.T Φ f)) :
    SimS cx A l env sc ns (exec (.If x ts fs pos) env) (execS cx.T Φ (.ite c t f)) := by
  intro Γ H ρ s R e0 fr
  rw [execS]
  refine SimSK.to (SimSAt.bindK (K := fun b Q E s => if b = true then wpAny (model cx.prog cx.w) A (execs ts env) Q E s else wpAny (model cx.prog cx.w) A (execs fs env) Q E s) e0 ((eok G c x env sc ns Γ hm ha e0.len).tru H ρ s R ⟨e0, fr⟩) ?_ ?_ fun Q E h => wpAny_If h)
  · intro b b' H1 ρ1 s1 _ F1 R1 e1 hb
    have hb' : b' = b := hb
    subst hb'
    cases b' with
    | true => exact (SimSK.of (ht Γ H1 ρ1 s1 R1 e1 (fr.full F1))).mono fun Q E h => h
    | false => exact (SimSK.of (hf Γ H1 ρ1 s1 R1 e1 (fr.full F1))).mono fun Q E h => by simpa using h
  · intro b Q E Q' E' s h k1 k2
    cases b
    · simp only [Bool.false_eq_true, if_false] at h ⊢; exact wpAny_mono h k1 k2
    · simp only [if_true] at h ⊢; exact wpAny_mono h k1 k2

set_option maxHeartbeats 4000000 in
mutual
theorem sok (G : Ground cx N A Φ (env :: l) d) (ha : Apart ns) (hef : env.frame = some env.locals) : ∀ (m : MS) (st : Stmt), ckS N sc ns m st = true → SimS cx A (env :: l) env sc ns (exec st env) (execS cx.T Φ m)
  | .pass, st, h => by
    simp only [ckS] at h
    obtain ⟨⟨pos, rfl⟩, _⟩ := opt_isSome h
    intro Γ H ρ s R e0 fr
    rw [execS]
    exact wpAny_Pass ⟨rfl, ρ, FullS.refl _ _ _, R, e0⟩
  | .expr e, st, h => by
    simp only [ckS] at h
    split at h
    · rename_i x pos z hx
      dsimp only at z
      subst z
      rw [Bool.and_eq_true] at h
      exact sim_expr G ha h.1 h.2
    · cases h
  | .assign i e, st, h => by
    simp only [ckS] at h
    split at h
    · rename_i y py x pos z hx
      dsimp only at z
      subst z
      rw [Bool.and_eq_true] at h
      exact sim_assign G ha h.1 h.2
    · cases h
  | .ret e, st, h => by
    simp only [ckS] at h
    split at h
    · rename_i x pos z hx
      dsimp only at z
      subst z
      exact sim_ret G ha h
    · cases h
  | .ite c t f, st, h => by
    simp only [ckS] at h
    split at h
    · rename_i x ts fs pos z hx
      dsimp only at z
      subst z
      simp only [Bool.and_eq_true] at h
      exact sim_ite G ha h.1.1 (soks G ha hef t ts h.1.2) (soks G ha hef f fs h.2)
    · cases h
  | .each i it b, st, h => by
    simp only [ckS] at h
    split at h
    · rename_i y py x ts pos z hx
      dsimp only at z
      subst z
      simp only [Bool.and_eq_true] at h
      exact sim_each G.room.hh G.frames ha h.1.1.1 h.1.2 (fun Γ hΓ => eok G it x env sc ns Γ h.1.1.2 ha hΓ) (soks G ha hef b ts h.2)
    · cases h
  | .eachZip i j a b body, st, h => by
    simp only [ckS] at h
    split at h
    · rename_i y py z pz kk x ts pos w hx
      dsimp only at w
      subst w
      simp only [Bool.and_eq_true] at h
      obtain ⟨⟨⟨h1, h2⟩, h3⟩, h4⟩ := h
      split at h4
      · rename_i f fp p q cp w hq
        dsimp only at w
        subst w
        simp only [Bool.and_eq_true, decide_eq_true_eq] at h4
        obtain ⟨⟨⟨h5, h6⟩, h7⟩, h8⟩ := h4
        exact sim_eachZip G.base G.room.hh G.frames ha h1 h2 h5 h6 (ck_notStar h7) (ck_notStar h8) (fun Γ hΓ => eok G a p env sc ns Γ h7 ha hΓ) (fun Γ hΓ => eok G b q env sc ns Γ h8 ha hΓ) (soks G ha hef body ts h3)
      · cases h4
    · cases h
theorem soks (G : Ground cx N A Φ (env :: l) d) (ha : Apart ns) (hef : env.frame = some env.locals) : ∀ (m : MSs) (sts : List Stmt), ckSs N sc ns m sts = true → SimS cx A (env :: l) env sc ns (execs sts env) (execSs cx.T Φ m)
  | .nil, [], _ => by
    intro Γ H ρ s R e0 fr
    rw [execSs]
    exact wpAny_execs_nil ⟨rfl, ρ, FullS.refl _ _ _, R, e0⟩
  | .nil, _ :: _, h => by simp [ckSs] at h
  | .cons _ _, [], h => by simp [ckSs] at h
  | .cons m ms, st :: sts, h => by
    simp only [ckSs, Bool.and_eq_true] at h
    intro Γ H ρ s R e0 fr
    rw [execSs]
    exact sim_then e0 fr (sok G ha hef m st h.1 Γ H ρ s R e0 fr) (soks G ha hef ms sts h.2)
end

/- a def's body -/
theorem body_ok {d : Nat} (B : Base cx N) (defs : ∀ (f : Nat) (a : Addr), cx.fns[f]? = some a → ∃ g, cx.T.funs[f]? = some g) {Φ : Funs} (hΦ : FunsOk cx Φ d) : BodyOk cx N Φ d :=
  fun body stmts env sc ns A l hck ha room hfr hef => soks (Φ := Φ) ⟨B, room, hfr, hΦ, defs⟩ ha hef body stmts hck
theorem funs_ok (B : Base cx N) (defs : ∀ (f : Nat) (a : Addr), cx.fns[f]? = some a → ∃ g, cx.T.funs[f]? = some g) : ∀ d, FunsOk cx (callF cx.T d) d
  | 0 => fun k a args vals A l _ _ _ H ρ s R p => trivial
  | d + 1 => FunsOk.step B (body_ok B defs (funs_ok B defs d))
end
end Mine

-- part MHead
namespace Mine
open PySem PySem.W.X

noncomputable def isNoneV : Value → Bool
  | .none => true
  | _ => false
noncomputable def sameB : Value → Value → Bool
  | .builtin a, .builtin b => decide (a = b)
  | .type a, .type b => decide (a = b)
  | .ref a, .ref b => Nat.beq a b
  | _, _ => false
theorem sameB_eq {a b : Value} (h : sameB a b = true) : a = b := by
  unfold sameB at h
  split at h
  · rw [of_decide_eq_true h]
  · rw [of_decide_eq_true h]
  · rw [Nat.eq_of_beq_eq_true h]
  · cases h
noncomputable def litOk : Val → Value → Bool
  | .none, .none => true
  | .bool a, .bool b => a == b
  | .int a, .int b _ => decide (a = b)
  | .str a, .str b _ => decide (a = b) && decide (a.length ≤ 1000)
  | _, _ => false
theorem litOk_vr {cx : Cx} {ρ : Rho} {h : Heap} {v : Val} {w : Value} (x : litOk v w = true) : VR cx ρ h v w := by
  unfold litOk at x
  split at x
  · exact .none
  · rw [eq_of_beq x]; exact .bool _
  · rw [of_decide_eq_true x]; exact .int _ _
  · rw [Bool.and_eq_true] at x
    rw [← of_decide_eq_true x.1]
    have := of_decide_eq_true x.2
    exact .str _ _ (by rw [sizeLine_eq]; omega)
  · cases x
noncomputable def codeOk (t : KT) (c : Value) (q : Str) : Bool := match c with
  | .ref a => (match t.get a with
    | some o => (match o.data with
      | .fields vs => (match (vs[1]? : Option Value) with
        | some (.str x _) => decide (x = q)
        | _ => false)
      | _ => false)
    | none => false)
  | _ => false
noncomputable def fnAt (N : Names) (t : KT) (a : Nat) (f : MFun) (ns : List Str) : Bool := match t.get a with
  | some o => (match o.data with
    | .func fd => (match fd.body with
      | .stmts body => ckF N f ns fd.params body fd.scope && fd.closure.isEmpty && Nat.beq fd.globals mainGlobals && Nat.beq fd.builtins builtinsNs && isNoneV fd.defaults && isNoneV fd.kwdefaults && codeOk t fd.code fd.qualname && sameB o.cls (.type "function")
      | _ => false)
    | _ => false)
  | none => false
noncomputable def fnsAt (N : Names) (t : KT) : List Addr → List MFun → List (List Str) → Bool
  | [], [], [] => true
  | a :: as, f :: fs, ns :: nss => fnAt N t a f ns && fnsAt N t as fs nss
  | _, _, _ => false
noncomputable def topOk (es : Array DictEntry) (N : Names) (T : Tab) (cls : List Value) (fns : List Addr) : Bool :=
  (N.funs.all fun p => match fns[p.2]?, nsFind es p.1 with
    | some a, some v => sameB (.ref a) v
    | _, _ => false) &&
  (N.globs.all fun p => match T.globs[p.2]?, nsFind es p.1 with
    | some m, some v => litOk m v
    | _, _ => false) &&
  (N.clss.all fun p => match cls[p.2]?, nsFind es p.1 with
    | some c, some v => sameB c v
    | some c, none => (match bootBuiltins p.1 with
      | some v => sameB c v && !decide (p.1 = ("__name__" : Str))
      | none => false)
    | _, _ => false) &&
  (bltTab.all fun p => (nsFind es p.1).isNone && !decide (p.1 = ("__name__" : Str)) && (match bootBuiltins p.1 with
    | some v => sameB p.2 v
    | none => false))
noncomputable def headOk (t : KT) (N : Names) (T : Tab) (cls : List Value) (fns : List Addr) (nss : List (List Str)) : Bool :=
  (match t.get mainGlobals with
   | some o => (match o.data with
     | .dict es _ => topOk es N T cls fns
     | _ => false)
   | none => false) && fnsAt N t fns T.funs nss

theorem kt_get {h : Heap} {t : KT} (Z : KT.Holds h 1 0 t) {a : Nat} {o : Obj} (e : t.get a = some o) : h.get? a = some o := by
  have := Z.get e
  rwa [Nat.one_mul, Nat.add_zero] at this

theorem codeOk_rec {h : Heap} {t : KT} (Z : KT.Holds h 1 0 t) {c : Value} {q : Str} (x : codeOk t c q = true) : h.CodeRec c q := by
  unfold codeOk at x
  split at x
  · split at x
    · rename_i o e
      split at x
      · rename_i vs hd
        split at x
        · rename_i y tk hv
          rw [← of_decide_eq_true x]
          exact ⟨_, o, vs, tk, rfl, kt_get Z e, hd, hv⟩
        · cases x
      · cases x
    · cases x
  · cases x

theorem fnAt_ok {cx : Cx} {N : Names} {t : KT} (Z : KT.Holds cx.h₀ 1 0 t) {a : Nat} {f : MFun} {ns : List Str} (x : fnAt N t a f ns = true) : FnOk cx N a f := by
  unfold fnAt at x
  split at x
  · rename_i o e
    split at x
    · rename_i fd hd
      split at x
      · rename_i body hb
        simp only [Bool.and_eq_true] at x
        obtain ⟨⟨⟨⟨⟨⟨⟨x1, x2⟩, x3⟩, x4⟩, x5⟩, x6⟩, x7⟩, x8⟩ := x
        have none_of : ∀ {v : Value}, isNoneV v = true → v = .none := fun {v} h => by cases v <;> first | rfl | cases h
        exact ⟨o, fd, body, ns, kt_get Z e, sameB_eq x8, hd, codeOk_rec Z x7, hb, List.isEmpty_iff.mp x2, Nat.eq_of_beq_eq_true x3, Nat.eq_of_beq_eq_true x4, none_of x5, none_of x6, x1⟩
      · cases x
    · cases x
  · cases x
theorem fnsAt_get {N : Names} {t : KT} : ∀ {fns : List Addr} {fs : List MFun} {nss : List (List Str)}, fnsAt N t fns fs nss = true → fns.length = fs.length ∧ ∀ (k : Nat) (a : Addr) (f : MFun), fns[k]? = some a → fs[k]? = some f → ∃ ns, fnAt N t a f ns = true
  | [], [], [], _ => ⟨rfl, fun k a f h _ => by simp at h⟩
  | a :: as, f :: fs, ns :: nss, h => by
    simp only [fnsAt, Bool.and_eq_true] at h
    obtain ⟨l, r⟩ := fnsAt_get h.2
    refine ⟨by simp [l], fun k b g h1 h2 => ?_⟩
    cases k with
    | zero => simp at h1 h2; subst h1 h2; exact ⟨ns, h.1⟩
    | succ k => exact r k b g (by simpa using h1) (by simpa using h2)
  | [], [], _ :: _, h => by simp [fnsAt] at h
  | [], _ :: _, _, h => by simp [fnsAt] at h
  | _ :: _, [], _, h => by simp [fnsAt] at h
  | _ :: _, _ :: _, [], h => by simp [fnsAt] at h

theorem lookup_all {α : Type} {l : List (Str × α)} {p : Str × α → Bool} (h : l.all p = true) {x : Str} {k : α} (e : l.lookup x = some k) : p (x, k) = true := List.all_eq_true.mp h _ (mem_of_lookup e)

/- what the head gives -/
theorem base_of {cx : Cx} {N : Names} {t : KT} {nss : List (List Str)} {mg mb : Str → Option Value} (Z : KT.Holds cx.h₀ 1 0 t) (g : cx.h₀.Ns mainGlobals mg) (b : cx.h₀.Ns builtinsNs mb) (hb : ∀ x : Str, x ≠ "__name__" → mb x = bootBuiltins x) (lim : cx.h₀.NoLimit)
    (ok : headOk t N cx.T cx.cls cx.fns nss = true) : Base cx N ∧ ∀ (f : Nat) (a : Addr), cx.fns[f]? = some a → ∃ g, cx.T.funs[f]? = some g := by
  unfold headOk at ok
  rw [Bool.and_eq_true] at ok
  obtain ⟨ok1, ok2⟩ := ok
  obtain ⟨hlen, hfn⟩ := fnsAt_get ok2
  refine ⟨⟨⟨mg, mb, g, b, ?_⟩, lim, fun k a f h1 h2 => ?_⟩, fun f a h => ?_⟩
  · split at ok1
    · rename_i o e
      split at ok1
      · rename_i es ep hd
        have hmg : ∀ x, mg x = nsFind es x := by
          obtain ⟨o', es', ep', e', d', _, h'⟩ := g
          rw [kt_get Z e] at e'; cases e'
          rw [hd] at d'; cases d'
          exact fun x => (h' x).symm
        unfold topOk at ok1
        simp only [Bool.and_eq_true] at ok1
        obtain ⟨⟨⟨c1, c2⟩, c3⟩, c4⟩ := ok1
        refine ⟨fun x k h => ?_, fun x k h => ?_, fun x c h => ?_, fun p hp => ?_⟩
        · have := lookup_all c1 h
          simp only at this
          split at this
          · rename_i a v h1 h2
            exact ⟨a, h1, by rw [hmg, h2, ← sameB_eq this]⟩
          · cases this
        · have := lookup_all c2 h
          simp only at this
          split at this
          · rename_i m v h1 h2
            exact ⟨m, v, h1, by rw [hmg, h2], fun ρ h => litOk_vr this⟩
          · cases this
        · have := lookup_all c3 h
          simp only at this
          split at this
          · rename_i c' v h1 h2
            exact ⟨c', h1, .inl (by rw [hmg, h2, ← sameB_eq this])⟩
          · rename_i c' h1 h2
            split at this
            · rename_i v h3
              simp only [Bool.and_eq_true, Bool.not_eq_true', decide_eq_false_iff_not] at this
              exact ⟨c', h1, .inr ⟨by rw [hmg, h2], by rw [hb _ this.2, h3, ← sameB_eq this.1]⟩⟩
            · cases this
          · cases this
        · have := List.all_eq_true.mp c4 p hp
          simp only [Bool.and_eq_true, Option.isNone_iff_eq_none, Bool.not_eq_true', decide_eq_false_iff_not] at this
          obtain ⟨⟨h1, h2⟩, h3⟩ := this
          split at h3
          · rename_i v h4
            exact ⟨by rw [hmg, h1], by rw [hb _ h2, h4, ← sameB_eq h3]⟩
          · cases h3
      · cases ok1
    · cases ok1
  · obtain ⟨ns, h⟩ := hfn k a f h1 h2
    exact fnAt_ok Z h
  · have lt : f < cx.T.funs.length := by rw [← hlen]; exact (List.getElem?_eq_some_iff.mp h).1
    exact ⟨_, List.getElem?_eq_getElem lt⟩

theorem ns_same {h : Heap} {a : Addr} {m m' : Str → Option Value} (x : h.Ns a m) (y : h.Ns a m') (n : Str) : m n = m' n := by
  obtain ⟨o, es, ep, e, d, _, f⟩ := x
  obtain ⟨o', es', ep', e', d', _, f'⟩ := y
  rw [e] at e'; cases e'
  rw [d] at d'; cases d'
  rw [← f n, f' n]
theorem vrs_script {cx : Cx} {ρ : Rho} {h : Heap} : ∀ {vs : List Value} {ns : List Int}, PyProof.Rows.IntsAre vs ns → VRs cx ρ h (ns.map .int) vs
  | [], [], _ => .nil
  | _ :: _, _ :: _, .cons n tk r => .cons (.int n tk) (vrs_script r)

/- from the head to the end -/
theorem finish {prog : Program} {w : World} {N : Names} {t : KT} {T : Tab} {cls : List Value} {attrs : List Str} {fns : List Addr} {nss : List (List Str)} {s₁ : Shared} {mg mb : Str → Option Value} {ns : List Int} {vs : List Value} {fa a : Addr} {k d : Nat} {Q : Value → Shared → Prop} {E : Value → Shared → Prop}
    (Z : KT.Holds s₁.heap 1 0 t) (g : s₁.heap.Ns mainGlobals mg) (b : s₁.heap.Ns builtinsNs mb) (hb : ∀ x : Str, x ≠ "__name__" → mb x = bootBuiltins x) (lim : s₁.heap.NoLimit) (ok : headOk t N T cls fns nss = true) (hsys : (t.get sysModules).isSome = true)
    (hobj : s₁.heap.get? a = some (listO vs 0)) (hI : PyProof.Rows.IntsAre vs ns) (hlen : ns.length ≤ 63) (hf : mg "law" = some (.ref fa)) (hk : N.funs.lookup ("law" : Str) = some k) (room : Room callerA d)
    (hlaw : ∃ H', callF T d k [.script ns] [] = .ok (.bool true) H')
    (kq : ∀ s', (∀ b o, s₁.heap.get? b = some o → s'.heap.get? b = some o) → s'.os = s₁.os → s'.gens = s₁.gens → Q (.bool true) s') :
    wpAny (model prog w) callerA (call (.ref fa) [.ref a]) Q E s₁ := by
  obtain ⟨B, defs⟩ := base_of (cx := ⟨prog, w, T, s₁, cls, attrs, fns⟩) (N := N) (nss := nss) Z g b hb lim ok
  obtain ⟨mg', mb', g', b', q, _⟩ := B.ns
  obtain ⟨a', ha', hx⟩ := q "law" k hk
  have e : fa = a' := by
    have := ns_same g g' "law"
    rw [hf, hx] at this
    cases this; rfl
  subst e
  obtain ⟨o1, e1⟩ := Option.isSome_iff_exists.mp hsys
  have R : Rel ⟨prog, w, T, s₁, cls, attrs, fns⟩ [] [] s₁ :=
    ⟨rfl, fun l o p h _ => by simp at h, fun i j p q _ h _ => by simp at h, fun p hp => by simp at hp, fun p hp => by simp at hp, fun _ _ e => e, Heap.lt_size (kt_get Z e1), ⟨o1, kt_get Z e1⟩, ⟨s₁.heap, s₁.toks, rfl⟩⟩
  obtain ⟨H', hH⟩ := hlaw
  have x := funs_ok B defs d k fa [.script ns] [.ref a] callerA [] ha' room rfl [] [] s₁ R ⟨.cons (.script hobj (by rw [sizeLine_eq]; omega) (vrs_script hI)) .nil, fun en he => by cases he⟩
  show wpAny (model prog w) callerA (call (.ref fa) [.ref a]) Q E s₁
  change SimAt _ callerA (callF T d k [.script ns] []) _ _ _ _ at x
  rw [hH] at x
  refine wpAny_mono x (fun v s' ⟨ρ', F, R', vr⟩ => ?_) fun _ _ q => q.elim
  have vr' : VR ⟨prog, w, T, s₁, cls, attrs, fns⟩ ρ' s'.heap (.bool true) v := vr
  cases vr'
  obtain ⟨h, tk, e⟩ := R'.rest
  exact kq s' R'.base (by rw [e]) (by rw [e])
end Mine

-- part LB
namespace Mine.Pure
open PySem
/-! ## running the mini language by simp -/
section
variable {α β : Type} {m : M α} {f : α → M β} {H H' : Hp} {a : α} {T : Tab} {Φ : Funs} {Γ : Env'}
theorem ret_at (a : α) (H : Hp) : M.ret a H = .ok a H := rfl
theorem bad_at (H : Hp) : (M.bad : M α) H = .bad := rfl
theorem bnd_at (m : M α) (f : α → M β) (H : Hp) : (m.bnd f) H = (match m H with | .ok a H' => f a H' | .exc c H' => .exc c H' | .bad => .bad) := rfl
theorem look_at (f : Hp → Option α) (H : Hp) : M.look f H = (match f H with | some a => .ok a H | none => .bad) := rfl
theorem opt_some (a : α) : M.ofOpt (some a) = M.ret a := rfl
theorem alloc_at (o : HObj) (H : Hp) : M.alloc o H = .ok (.loc H.length) (H ++ [o]) := rfl
theorem bndS_at (m : M α) (Γ : Env') (f : α → Hp → ResS) (H : Hp) : bndS m Γ f H = (match m H with | .ok a H' => f a H' | .exc c H' => .exc c Γ H' | .bad => .bad) := rfl
theorem thenS_next (Γ : Env') (H : Hp) (f : Env' → Hp → ResS) : thenS (.next Γ H) f = f Γ H := rfl
theorem thenS_ret (v : Val) (H : Hp) (f : Env' → Hp → ResS) : thenS (.ret v H) f = .ret v H := rfl
theorem thenS_exc (c : Nat) (Γ : Env') (H : Hp) (f : Env' → Hp → ResS) : thenS (.exc c Γ H) f = .exc c Γ H := rfl
theorem truth_bool (b : Bool) : truth (.bool b) = M.ret b := rfl
theorem bf_len_script (ns : List Int) : bfV .len [.script ns] = M.ret (.int ns.length) := by
  funext H
  show (match (some (Val.int (ns.map Val.int).length) : Option Val) with | some a => Res.ok a H | none => .bad) = _
  rw [List.length_map]; rfl
theorem bf_len_tup (xs : List Val) : bfV .len [.tup xs] = M.ret (.int xs.length) := rfl
theorem bf_len_loc {l : Nat} {xs : List Val} {H : Hp} (h : H[l]? = some (.list xs)) : bfV .len [.loc l] H = .ok (.int xs.length) H := by
  have e : bfV .len [.loc l] = M.look (fun H => (itemsOf (.loc l) H).map fun xs => Val.int xs.length) := rfl
  rw [e, look_at]
  simp only [itemsOf, h, Option.map_some]
theorem bf_range (n : Int) (h : -1073741824 ≤ n ∧ n ≤ 1073741824) : bfV .range [.int n] = M.ret (.rng n) := by
  show (if -1073741824 ≤ n ∧ n ≤ 1073741824 then M.ret (Val.rng n) else .bad) = _
  rw [if_pos h]
theorem bf_int (b : Bool) : bfV .int [.bool b] = M.ret (.int (if b = true then 1 else 0)) := rfl
theorem add_int (x y : Int) : binV .add (.int x) (.int y) = M.ret (.int (x + y)) := rfl
theorem sub_int (x y : Int) : binV .sub (.int x) (.int y) = M.ret (.int (x - y)) := rfl
theorem fdiv_int (x y : Int) (h : ¬ (y = 0 ∨ 1073741824 ≤ y.natAbs)) : binV .fdiv (.int x) (.int y) = M.ret (.int (Int.fdiv x y)) := by
  show (if y = 0 ∨ 1073741824 ≤ y.natAbs then M.bad else M.ret (Val.int (Int.fdiv x y))) = _
  rw [if_neg h]
theorem mod_int (x y : Int) (h : y ≠ 0) : binV .mod (.int x) (.int y) = M.ret (.int (Int.fmod x y)) := by
  show (if y = 0 then M.bad else M.ret (Val.int (Int.fmod x y))) = _
  rw [if_neg h]
theorem cmp_lt (x y : Int) (H : Hp) : cmpV .lt (.int x) (.int y) H = some (decide (x < y)) := rfl
theorem cmp_gt (x y : Int) (H : Hp) : cmpV .gt (.int x) (.int y) H = some (decide (x > y)) := rfl
theorem cmp_le (x y : Int) (H : Hp) : cmpV .le (.int x) (.int y) H = some (decide (x ≤ y)) := rfl
theorem cmp_ge (x y : Int) (H : Hp) : cmpV .ge (.int x) (.int y) H = some (decide (x ≥ y)) := rfl
theorem sub_script {ns : List Int} {k : Nat} {v : Int} (h : ns[k]? = some v) : subV (.script ns) (.int k) = M.ret (.int v) := by
  have lt := (List.getElem?_eq_some_iff.mp h).1
  funext H
  have e : subV (.script ns) (.int k) = M.look (fun _ => (placeOf (k : Int) ns.length).bind fun p => (ns[p]?).map Val.int) := rfl
  have : placeOf (k : Int) ns.length = some k := by
    unfold placeOf
    rw [if_pos (by omega), if_pos (by omega)]; rfl
  rw [e, look_at, this]
  simp only [Option.bind_some, h, Option.map_some, ret_at]
theorem sub_tup {xs : List Val} {k : Nat} {v : Val} (h : xs[k]? = some v) : subV (.tup xs) (.int k) = M.ret v := by
  funext H
  have e : subV (.tup xs) (.int k) = M.look (fun _ => if 0 ≤ (k : Int) then xs[(k : Int).toNat]? else none) := rfl
  rw [e, look_at]
  simp only [if_pos (show 0 ≤ (k : Int) by omega), Int.toNat_natCast, h, ret_at]
/- a call -/
theorem call_at {d k : Nat} {g : MFun} {args : List Val} (h : T.funs[k]? = some g) (ha : args.length = g.arity) :
    callF T (d + 1) k args H = resOf (execSs T (callF T d) g.body (args.map some ++ List.replicate g.nvars none) H) := by
  rw [callF, h]
  show runF T (callF T d) g args H = _
  unfold runF
  rw [if_pos ha]
end
end Mine.Pure

-- part LW
namespace Mine.Pure
open PySem
/-! ## a small logic over the mini language -/
noncomputable def Wp {α : Type} (m : M α) (H : Hp) (Q : α → Hp → Prop) (E : Nat → Hp → Prop) : Prop :=
  match m H with
  | .ok a H' => Q a H'
  | .exc c H' => E c H'
  | .bad => False
noncomputable def WpS (r : ResS) (Q : Env' → Hp → Prop) (R : Val → Hp → Prop) (E : Nat → Env' → Hp → Prop) : Prop :=
  match r with
  | .next Γ H => Q Γ H
  | .ret v H => R v H
  | .exc c Γ H => E c Γ H
  | .bad => False
noncomputable def getV : Env' → Nat → (Val → Prop) → Prop
  | [], _, _ => False
  | some v :: _, 0, k => k v
  | none :: _, 0, _ => False
  | _ :: Γ, n + 1, k => getV Γ n k
noncomputable def asBool : Val → (Bool → Prop) → Prop
  | .bool b, k => k b
  | _, _ => False
noncomputable def getO {α : Type} : Option α → (α → Prop) → Prop
  | some a, k => k a
  | none, _ => False
noncomputable def brB : Bool → Prop → Prop → Prop
  | true, a, _ => a
  | false, _, b => b
/- no exception -/
noncomputable def NoE : Nat → Hp → Prop := fun _ _ => False
noncomputable def NoX : Nat → Env' → Hp → Prop := fun _ _ _ => False
section
variable {α β : Type} {T : Tab} {Φ : Funs} {Γ : Env'} {H : Hp}
variable {Q : Val → Hp → Prop} {E : Nat → Hp → Prop} {QS : Env' → Hp → Prop} {R : Val → Hp → Prop} {ES : Nat → Env' → Hp → Prop}
theorem wp_ret {Q : α → Hp → Prop} (a : α) : Wp (M.ret a) H Q E = Q a H := rfl
theorem wp_bnd {Q : β → Hp → Prop} (m : M α) (f : α → M β) : Wp (m.bnd f) H Q E = Wp m H (fun a H' => Wp (f a) H' Q E) E := by
  unfold Wp M.bnd
  cases m H <;> rfl
theorem wp_alloc (o : HObj) : Wp (M.alloc o) H Q E = Q (.loc H.length) (H ++ [o]) := rfl
theorem Wp.mono {Q Q' : α → Hp → Prop} {E' : Nat → Hp → Prop} {m : M α} (h : Wp m H Q E) (hq : ∀ a H', Q a H' → Q' a H') (he : ∀ c H', E c H' → E' c H') : Wp m H Q' E' := by
  unfold Wp at h ⊢
  cases hm : m H with
  | ok a H' => rw [hm] at h; exact hq _ _ h
  | exc c H' => rw [hm] at h; exact he _ _ h
  | bad => rw [hm] at h; exact h
theorem Wp.then {Q Q' : α → Hp → Prop} {m : M α} (h : Wp m H Q NoE) (hq : ∀ a H', Q a H' → Q' a H') : Wp m H Q' E :=
  h.mono hq (fun _ _ f => f.elim)
theorem Wp.of_eq {Q : α → Hp → Prop} {m : M α} {a : α} {H' : Hp} (h : m H = .ok a H') (q : Q a H') : Wp m H Q E := by
  unfold Wp; rw [h]; exact q
theorem Wp.get {Q : α → Hp → Prop} {m : M α} (h : Wp m H Q NoE) : ∃ a H', m H = .ok a H' ∧ Q a H' := by
  unfold Wp at h
  cases hm : m H with
  | ok a H' => rw [hm] at h; exact ⟨a, H', rfl, h⟩
  | exc c H' => rw [hm] at h; exact h.elim
  | bad => rw [hm] at h; exact h.elim
theorem WpS.mono {r : ResS} {Q' : Env' → Hp → Prop} {R' : Val → Hp → Prop} {E' : Nat → Env' → Hp → Prop} (h : WpS r QS R ES) (hq : ∀ Γ H', QS Γ H' → Q' Γ H') (hr : ∀ v H', R v H' → R' v H') (he : ∀ c Γ H', ES c Γ H' → E' c Γ H') : WpS r Q' R' E' := by
  cases r with
  | next Γ H => exact hq _ _ h
  | ret v H => exact hr _ _ h
  | exc c Γ H => exact he _ _ _ h
  | bad => exact h
theorem wps_bnd (m : M α) (Γ : Env') (f : α → Hp → ResS) : WpS (bndS m Γ f H) QS R ES = Wp m H (fun a H' => WpS (f a H') QS R ES) (fun c H' => ES c Γ H') := by
  unfold Wp bndS
  cases m H <;> rfl
theorem wps_then (r : ResS) (f : Env' → Hp → ResS) : WpS (thenS r f) QS R ES = WpS r (fun Γ H => WpS (f Γ H) QS R ES) R ES := by
  cases r <;> rfl
/-! calls -/
theorem wp_call {d k : Nat} {g : MFun} {args : List Val} (h : T.funs[k]? = some g) (ha : args.length = g.arity) :
    Wp (callF T (d + 1) k args) H Q E = WpS (execSs T (callF T d) g.body (args.map some ++ List.replicate g.nvars none) H) (fun _ H' => Q .none H') Q NoX := by
  unfold Wp
  rw [call_at h ha]
  cases execSs T (callF T d) g.body (args.map some ++ List.replicate g.nvars none) H <;> rfl
/-! expressions -/
theorem wp_none : Wp (evalE T Φ .none Γ) H Q E = Q .none H := rfl
theorem wp_bool (b : Bool) : Wp (evalE T Φ (.bool b) Γ) H Q E = Q (.bool b) H := rfl
theorem wp_int (i : Int) : Wp (evalE T Φ (.int i) Γ) H Q E = Q (.int i) H := rfl
theorem wp_str (s : Str) : Wp (evalE T Φ (.str s) Γ) H Q E = Q (.str s) H := rfl
theorem wp_opt {Q : α → Hp → Prop} (o : Option α) : Wp (M.ofOpt o) H Q E = getO o (fun v => Q v H) := by cases o <;> rfl
theorem wp_look {Q : α → Hp → Prop} (f : Hp → Option α) : Wp (M.look f) H Q E = getO (f H) (fun v => Q v H) := by
  unfold Wp M.look
  cases f H <;> rfl
theorem getV_get : ∀ (Γ : Env') (i : Nat) (k : Val → Prop), getV Γ i k = getO (match Γ[i]? with | some (some v) => some v | _ => none) k
  | [], i, k => by cases i <;> rfl
  | some v :: Γ, 0, k => rfl
  | none :: Γ, 0, k => rfl
  | o :: Γ, i + 1, k => by
    have : getV (o :: Γ) (i + 1) k = getV Γ i k := by cases o <;> rfl
    rw [this, getV_get Γ i k, List.getElem?_cons_succ]
theorem wp_var (i : Nat) : Wp (evalE T Φ (.var i) Γ) H Q E = getV Γ i (fun v => Q v H) := by
  rw [evalE, wp_opt, getV_get] <;> rfl
theorem wp_glob (k : Nat) : Wp (evalE T Φ (.glob k) Γ) H Q E = getO T.globs[k]? (fun v => Q v H) := by rw [evalE, wp_opt]
theorem getV_zero (v : Val) (Γ : Env') (k : Val → Prop) : getV (some v :: Γ) 0 k = k v := rfl
theorem getV_succ (o : Option Val) (Γ : Env') (n : Nat) (k : Val → Prop) : getV (o :: Γ) (n + 1) k = getV Γ n k := by cases o <;> rfl
theorem asBool_bool (b : Bool) (k : Bool → Prop) : asBool (.bool b) k = k b := rfl
theorem getO_some {α : Type} (a : α) (k : α → Prop) : getO (some a) k = k a := rfl
theorem getO_of {α : Type} {o : Option α} {a : α} (h : o = some a) (k : α → Prop) : getO o k = k a := by rw [h]; rfl
theorem brB_true (A B : Prop) : brB true A B = A := rfl
theorem brB_false (A B : Prop) : brB false A B = B := rfl
theorem brB_not (b : Bool) (A B : Prop) : brB (!b) A B = brB b B A := by cases b <;> rfl
theorem brB_pos {p : Prop} [Decidable p] (h : p) (A B : Prop) : brB (decide p) A B = A := by rw [decide_eq_true h]; rfl
theorem brB_neg {p : Prop} [Decidable p] (h : ¬ p) (A B : Prop) : brB (decide p) A B = B := by rw [decide_eq_false h]; rfl
theorem brB_split {p : Prop} [Decidable p] {A B : Prop} (h1 : p → A) (h2 : ¬ p → B) : brB (decide p) A B := by
  by_cases h : p
  · rw [brB_pos h]; exact h1 h
  · rw [brB_neg h]; exact h2 h
theorem brB_cases {b : Bool} {A B : Prop} (h1 : b = true → A) (h2 : b = false → B) : brB b A B := by
  cases b
  · exact h2 rfl
  · exact h1 rfl
theorem wp_bin (op : BOp) (a b : ME) : Wp (evalE T Φ (.bin op a b) Γ) H Q E = Wp (evalE T Φ a Γ) H (fun x H => Wp (evalE T Φ b Γ) H (fun y H => Wp (binV op x y) H Q E) E) E := by
  rw [evalE, wp_bnd]; simp only [wp_bnd]
theorem wp_truth {Q : Bool → Hp → Prop} (v : Val) : Wp (truth v) H Q E = asBool v (fun b => Q b H) := by cases v <;> rfl
theorem wp_not (a : ME) : Wp (evalE T Φ (.not a) Γ) H Q E = Wp (evalE T Φ a Γ) H (fun x H => asBool x fun b => Q (.bool (!b)) H) E := by
  rw [evalE, wp_bnd]; simp only [wp_bnd, wp_truth, wp_ret]
theorem asBool_br (x : Val) (A B : Prop) (f : Bool → Prop) (h1 : f true = A) (h2 : f false = B) : asBool x f = asBool x (fun t => brB t A B) := by
  cases x with
  | bool b => cases b; exact h2; exact h1
  | _ => rfl
theorem getO_br (x : Option Bool) (A B : Prop) (f : Bool → Prop) (h1 : f true = A) (h2 : f false = B) : getO x f = getO x (fun t => brB t A B) := by
  cases x with
  | some b => cases b; exact h2; exact h1
  | _ => rfl
theorem wp_and (a b : ME) : Wp (evalE T Φ (.and a b) Γ) H Q E = Wp (evalE T Φ a Γ) H (fun x H => asBool x fun t => brB t (Wp (evalE T Φ b Γ) H Q E) (Q (.bool false) H)) E := by
  rw [evalE, wp_bnd]; simp only [wp_bnd, wp_truth]
  congr 1; funext x H; exact asBool_br _ _ _ _ rfl rfl
theorem wp_or (a b : ME) : Wp (evalE T Φ (.or a b) Γ) H Q E = Wp (evalE T Φ a Γ) H (fun x H => asBool x fun t => brB t (Q (.bool true) H) (Wp (evalE T Φ b Γ) H Q E)) E := by
  rw [evalE, wp_bnd]; simp only [wp_bnd, wp_truth]
  congr 1; funext x H; exact asBool_br _ _ _ _ rfl rfl
theorem wp_cmp (op : COp) (a b : ME) : Wp (evalE T Φ (.cmp op a b) Γ) H Q E = Wp (evalE T Φ a Γ) H (fun x H => Wp (evalE T Φ b Γ) H (fun y H => getO (cmpV op x y H) fun r => Q (.bool r) H) E) E := by
  rw [evalE, wp_bnd]; simp only [wp_bnd, wp_look, wp_ret]
theorem wp_cmp2 (op1 op2 : COp) (a b c : ME) : Wp (evalE T Φ (.cmp2 op1 op2 a b c) Γ) H Q E = Wp (evalE T Φ a Γ) H (fun x H => Wp (evalE T Φ b Γ) H (fun y H => getO (cmpV op1 x y H) fun r => brB r (Wp (evalE T Φ c Γ) H (fun z H => getO (cmpV op2 y z H) fun r => Q (.bool r) H) E) (Q (.bool false) H)) E) E := by
  rw [evalE, wp_bnd]; simp only [wp_bnd, wp_look]
  congr 1; funext x H; congr 1; funext y H
  refine getO_br _ _ _ _ ?_ rfl
  simp only [wp_bnd, wp_look, wp_ret]
theorem wp_sub (a i : ME) : Wp (evalE T Φ (.sub a i) Γ) H Q E = Wp (evalE T Φ a Γ) H (fun x H => Wp (evalE T Φ i Γ) H (fun y H => Wp (subV x y) H Q E) E) E := by
  rw [evalE, wp_bnd]; simp only [wp_bnd]
theorem wp_oNone : Wp (evalO T Φ .none Γ) H Q E = Q .none H := rfl
theorem wp_oSome (e : ME) : Wp (evalO T Φ (.some e) Γ) H Q E = Wp (evalE T Φ e Γ) H Q E := rfl
theorem wp_tup (es : MEs) : Wp (evalE T Φ (.tup es) Γ) H Q E = Wp (evalEs T Φ es Γ) H (fun vs H => Q (.tup vs) H) E := by
  rw [evalE, wp_bnd]; simp only [wp_ret]
theorem wp_list (es : MEs) : Wp (evalE T Φ (.list es) Γ) H Q E = Wp (evalEs T Φ es Γ) H (fun vs H => Q (.loc H.length) (H ++ [.list vs])) E := by
  rw [evalE, wp_bnd]; simp only [wp_alloc]
theorem wp_callE (f : Nat) (es : MEs) : Wp (evalE T Φ (.call f es) Γ) H Q E = Wp (evalEs T Φ es Γ) H (fun vs H => Wp (Φ f vs) H Q E) E := by
  rw [evalE, wp_bnd]
theorem wp_bf (f : BF) (es : MEs) : Wp (evalE T Φ (.bf f es) Γ) H Q E = Wp (evalEs T Φ es Γ) H (fun vs H => Wp (bfV f vs) H Q E) E := by
  rw [evalE, wp_bnd]
theorem wp_bm (a : ME) (m : BM) (es : MEs) : Wp (evalE T Φ (.bm a m es) Γ) H Q E = Wp (evalE T Φ a Γ) H (fun o H => getO (bmFits m o H) fun _ => Wp (evalEs T Φ es Γ) H (fun vs H => Wp (bmV m o vs) H Q E) E) E := by
  rw [evalE, wp_bnd]; simp only [wp_bnd, wp_look]
theorem wp_isinst (a : ME) (t : Ty) : Wp (evalE T Φ (.isinst a t) Γ) H Q E = Wp (evalE T Φ a Γ) H (fun x H => Wp (isinstV T x t) H Q E) E := by
  rw [evalE, wp_bnd]
theorem wp_nil {Q : List Val → Hp → Prop} : Wp (evalEs T Φ .nil Γ) H Q E = Q [] H := rfl
theorem wp_cons {Q : List Val → Hp → Prop} (e : ME) (es : MEs) : Wp (evalEs T Φ (.cons e es) Γ) H Q E = Wp (evalE T Φ e Γ) H (fun v H => Wp (evalEs T Φ es Γ) H (fun vs H => Q (v :: vs) H) E) E := by
  rw [evalEs, wp_bnd]; simp only [wp_bnd, wp_ret]
/-! statements -/
theorem wps_nil : WpS (execSs T Φ .nil Γ H) QS R ES = QS Γ H := rfl
theorem wps_cons (s : MS) (ss : MSs) : WpS (execSs T Φ (.cons s ss) Γ H) QS R ES = WpS (execS T Φ s Γ H) (fun Γ H => WpS (execSs T Φ ss Γ H) QS R ES) R ES := by
  rw [execSs, wps_then]
theorem wps_pass : WpS (execS T Φ .pass Γ H) QS R ES = QS Γ H := rfl
theorem wps_expr (e : ME) : WpS (execS T Φ (.expr e) Γ H) QS R ES = Wp (evalE T Φ e Γ) H (fun _ H => QS Γ H) (fun c H => ES c Γ H) := by
  rw [execS, wps_bnd]; rfl
theorem wps_assign (i : Nat) (e : ME) : WpS (execS T Φ (.assign i e) Γ H) QS R ES = Wp (evalE T Φ e Γ) H (fun v H => QS (Γ.set i (some v)) H) (fun c H => ES c Γ H) := by
  rw [execS, wps_bnd]; rfl
theorem wps_ret (e : MEo) : WpS (execS T Φ (.ret e) Γ H) QS R ES = Wp (evalO T Φ e Γ) H R (fun c H => ES c Γ H) := by
  rw [execS, wps_bnd]; rfl
theorem wps_ite (c : ME) (t f : MSs) : WpS (execS T Φ (.ite c t f) Γ H) QS R ES = Wp (evalE T Φ c Γ) H (fun v H => asBool v fun b => brB b (WpS (execSs T Φ t Γ H) QS R ES) (WpS (execSs T Φ f Γ H) QS R ES)) (fun c H => ES c Γ H) := by
  rw [execS, wps_bnd, wp_bnd]; simp only [wp_truth]
  congr 1; funext x H; exact asBool_br _ _ _ _ rfl rfl
/-! loops -/
theorem wps_each {i : Nat} {it : ME} {body : MSs} (h : Wp (evalE T Φ it Γ) H (fun v H => getO (iterOf v H) fun p => WpS (eachL (chk p.2 p.1) (bind1 i) (execSs T Φ body) p.1 Γ H) QS R ES) (fun c H => ES c Γ H)) : WpS (execS T Φ (.each i it body) Γ H) QS R ES := by
  rw [execS, wps_bnd]; simp only [wps_bnd, wp_look]; exact h
theorem wps_eachZip {i j : Nat} {a b : ME} {body : MSs} (h : Wp (evalE T Φ a Γ) H (fun v H => Wp (evalE T Φ b Γ) H (fun w H => getO (listOf v H) fun p => getO (listOf w H) fun q => p.1.length = q.1.length ∧
    WpS (eachL (fun H' => chk (some p.2) p.1 H' && chk (some q.2) q.1 H' && isHid H.length H') (bind2 i j) (execSs T Φ body) (pairUp p.1 q.1) Γ (H ++ [.hid])) QS R ES) (fun c H => ES c Γ H)) (fun c H => ES c Γ H)) : WpS (execS T Φ (.eachZip i j a b body) Γ H) QS R ES := by
  rw [execS, wps_bnd]; simp only [wps_bnd, wp_look]
  refine h.mono ?_ (fun _ _ h => h)
  intro v H h
  refine h.mono ?_ (fun _ _ h => h)
  intro w H h
  cases hp : listOf v H with
  | none => rw [hp] at h; exact h
  | some p =>
    rw [hp] at h
    cases hq : listOf w H with
    | none => rw [hq] at h; exact h
    | some q =>
      rw [hq] at h
      obtain ⟨e, h⟩ := h
      show WpS (if _ then _ else _) _ _ _
      rw [if_pos e]; exact h
/- a loop over a list, with an invariant over what is done and what is still to do -/
theorem wps_eachL {chk : Hp → Bool} {bind : Val → Env' → Option Env'} {body : Env' → Hp → ResS} (I : List Val → Env' → Hp → Prop) :
    ∀ (xs : List Val) (Γ : Env') (H : Hp), I xs Γ H → (∀ Γ H, I [] Γ H → QS Γ H) → (∀ ys Γ H, I ys Γ H → chk H = true) →
    (∀ x ys Γ H, I (x :: ys) Γ H → ∃ Γ', bind x Γ = some Γ' ∧ WpS (body Γ' H) (I ys) R NoX) → WpS (eachL chk bind body xs Γ H) QS R ES
  | [], Γ, H, h, hd, hc, _ => by
    rw [eachL, if_pos (hc _ _ _ h)]; exact hd _ _ h
  | x :: xs, Γ, H, h, hd, hc, hs => by
    rw [eachL, if_pos (hc _ _ _ h)]
    obtain ⟨Γ', e, w⟩ := hs _ _ _ _ h
    rw [e]
    dsimp only
    cases hb : body Γ' H with
    | exc c Γ2 H2 => rw [hb] at w; exact w.elim
    | bad => rw [hb] at w; exact w.elim
    | ret v H2 => rw [hb] at w; exact w
    | next Γ2 H2 => rw [hb] at w; exact wps_eachL I xs Γ2 H2 w hd hc hs
/- by count: what is done is the first k -/
theorem wps_eachN {chk : Hp → Bool} {bind : Val → Env' → Option Env'} {body : Env' → Hp → ResS} {xs : List Val} (I : Nat → Env' → Hp → Prop)
    (h0 : I 0 Γ H) (hd : ∀ Γ H, I xs.length Γ H → QS Γ H) (hc : ∀ k Γ H, k ≤ xs.length → I k Γ H → chk H = true)
    (hs : ∀ k x Γ H, xs[k]? = some x → I k Γ H → ∃ Γ', bind x Γ = some Γ' ∧ WpS (body Γ' H) (I (k + 1)) R NoX) : WpS (eachL chk bind body xs Γ H) QS R ES := by
  refine wps_eachL (fun ys Γ H => ∃ k, ys = xs.drop k ∧ k ≤ xs.length ∧ I k Γ H) xs Γ H ⟨0, rfl, Nat.zero_le _, h0⟩ ?_ ?_ ?_
  · rintro Γ H ⟨k, e, l, h⟩
    have : k = xs.length := by
      have := congrArg List.length e
      simp at this; omega
    subst this; exact hd _ _ h
  · rintro ys Γ H ⟨k, e, l, h⟩
    exact hc k Γ H l h
  · rintro x ys Γ H ⟨k, e, l, h⟩
    have hx : xs[k]? = some x := by
      have := congrArg (fun z => z[0]?) e
      simpa using this.symm
    have lt := (List.getElem?_eq_some_iff.mp hx).1
    obtain ⟨Γ', hb, w⟩ := hs k x Γ H hx h
    refine ⟨Γ', hb, w.mono ?_ (fun _ _ h => h) (fun _ _ _ h => h)⟩
    intro Γ H h
    refine ⟨k + 1, ?_, lt, h⟩
    have := congrArg List.tail e
    simpa using this
/- a comprehension, with an invariant over what is done and what has come out -/
theorem wp_compL {chk : Hp → Bool} {step : Val → M (Option Val)} {Q : List Val → Hp → Prop} (I : List Val → List Val → Hp → Prop) :
    ∀ (xs : List Val) (out : List Val) (H : Hp), I xs out H → (∀ ys out H, I ys out H → chk H = true) →
    (∀ x ys out H, I (x :: ys) out H → Wp (step x) H (fun r H => I ys (out ++ r.toList) H) E) →
    (∀ zs H, I [] (out ++ zs) H → Q zs H) → Wp (compL chk step xs) H Q E
  | [], out, H, h, hc, _, hd => by
    have : compL chk step [] H = .ok [] H := by
      show (if chk H = true then _ else _) = _
      exact if_pos (hc _ _ _ h)
    exact Wp.of_eq this (hd [] H (by simpa using h))
  | x :: xs, out, H, h, hc, hs, hd => by
    have : compL chk step (x :: xs) H = ((step x).bnd fun r => (compL chk step xs).bnd fun ys => .ret (match r with | some y => y :: ys | none => ys)) H := by
      show (if chk H = true then _ else _) = _
      exact if_pos (hc _ _ _ h)
    unfold Wp; rw [this]
    show Wp _ H Q E
    rw [wp_bnd]
    refine (hs _ _ _ _ h).mono ?_ (fun _ _ h => h)
    intro r H h
    rw [wp_bnd]
    simp only [wp_ret]
    refine wp_compL I xs _ H h hc hs ?_
    intro zs H h
    refine hd _ H ?_
    cases r with
    | none => simpa using h
    | some y => simpa using h
theorem wp_quiet {Q : α → Hp → Prop} {m : M α} (h : Wp m H Q NoE) : Wp (M.quiet m) H Q E := by
  unfold Wp at h ⊢
  unfold M.quiet
  cases hm : m H with
  | ok a H' => rw [hm] at h; exact h
  | exc c H' => rw [hm] at h; exact h.elim
  | bad => rw [hm] at h; exact h.elim
/- a comprehension -/
theorem wp_comp {elt it : ME} {cond : MEo} (h : Wp (evalE T Φ it Γ) H (fun v H => getO (iterOf v H) fun p =>
    Wp (compL (chk p.2 p.1) (fun x => (evalC T Φ cond (Γ ++ [some x])).bnd fun b => match b with
        | true => (evalE T Φ elt (Γ ++ [some x])).bnd fun y => .ret (some y)
        | false => .ret none) p.1) H (fun ys H => ys.length < lid ∧ Q (.loc H.length) (H ++ [.list ys])) NoE) E) : Wp (evalE T Φ (.comp elt it cond) Γ) H Q E := by
  rw [evalE, wp_bnd]; simp only [wp_bnd, wp_look]
  refine h.mono ?_ (fun _ _ h => h)
  intro v H h
  cases hp : iterOf v H with
  | none => rw [hp] at h; exact h
  | some p =>
  rw [hp] at h
  refine wp_quiet (Wp.mono h ?_ (fun _ _ h => h))
  rintro ys H ⟨hl, q⟩
  rw [if_pos hl]; exact q
theorem wp_step {elt : ME} {cond : MEo} {Q : Option Val → Hp → Prop} (h : Wp (evalC T Φ cond Γ) H (fun b H => brB b (Wp (evalE T Φ elt Γ) H (fun y H => Q (some y) H) E) (Q none H)) E) :
    Wp ((evalC T Φ cond Γ).bnd fun b => match b with
        | true => (evalE T Φ elt Γ).bnd fun y => M.ret (some y)
        | false => .ret none) H Q E := by
  rw [wp_bnd]
  refine h.mono ?_ (fun _ _ h => h)
  intro b H h
  cases b with
  | true => rw [wp_bnd]; exact h
  | false => exact h
theorem wp_cNone {Q : Bool → Hp → Prop} : Wp (evalC T Φ .none Γ) H Q E = Q true H := rfl
theorem wp_cSome {Q : Bool → Hp → Prop} (e : ME) : Wp (evalC T Φ (.some e) Γ) H Q E = Wp (evalE T Φ e Γ) H (fun v H => asBool v fun b => Q b H) E := by
  rw [evalC, wp_bnd]; simp only [wp_truth]
end
end Mine.Pure

-- part LV
namespace Mine.Pure
open PySem
section
variable {T : Tab} {Φ : Funs} {Γ : Env'} {H : Hp}
variable {Q : Val → Hp → Prop} {E : Nat → Hp → Prop}
/-! ## numbers -/
theorem wv_add (x y : Int) : Wp (binV .add (.int x) (.int y)) H Q E = Q (.int (x + y)) H := rfl
theorem wv_sub (x y : Int) : Wp (binV .sub (.int x) (.int y)) H Q E = Q (.int (x - y)) H := rfl
theorem wv_ite {α : Type} {Q : α → Hp → Prop} (p : Prop) [Decidable p] (m : M α) : Wp (if p then m else M.bad) H Q E = (p ∧ Wp m H Q E) := by
  by_cases h : p
  · rw [if_pos h]; simp [h]
  · rw [if_neg h]; simp [h]; exact fun h => h
theorem wv_ite' {α : Type} {Q : α → Hp → Prop} (p : Prop) [Decidable p] (m : M α) : Wp (if p then M.bad else m) H Q E = (¬ p ∧ Wp m H Q E) := by
  by_cases h : p
  · rw [if_pos h]; simp [h]; exact fun h => h
  · rw [if_neg h]; simp [h]
theorem wv_mul (x y : Int) : Wp (binV .mul (.int x) (.int y)) H Q E = ((small x || small y) = true ∧ Q (.int (x * y)) H) := wv_ite _ _
theorem wv_fdiv (x y : Int) : Wp (binV .fdiv (.int x) (.int y)) H Q E = (¬ (y = 0 ∨ 1073741824 ≤ y.natAbs) ∧ Q (.int (Int.fdiv x y)) H) := wv_ite' _ _
theorem wv_mod (x y : Int) : Wp (binV .mod (.int x) (.int y)) H Q E = (¬ (y = 0) ∧ Q (.int (Int.fmod x y)) H) := wv_ite' _ _
theorem wv_range (n : Int) : Wp (bfV .range [.int n]) H Q E = ((-1073741824 ≤ n ∧ n ≤ 1073741824) ∧ Q (.rng n) H) := wv_ite _ _
theorem wv_len_script (ns : List Int) : Wp (bfV .len [.script ns]) H Q E = Q (.int ns.length) H := by rw [bf_len_script, wp_ret]
theorem wv_len_tup (xs : List Val) : Wp (bfV .len [.tup xs]) H Q E = Q (.int xs.length) H := rfl
theorem wv_len_loc {l : Nat} {xs : List Val} (h : H[l]? = some (.list xs)) : Wp (bfV .len [.loc l]) H Q E = Q (.int xs.length) H := by
  unfold Wp; rw [bf_len_loc h]
theorem wv_int (b : Bool) : Wp (bfV .int [.bool b]) H Q E = Q (.int (if b = true then 1 else 0)) H := rfl
/-! ## comparisons -/
theorem data_int (n : Nat) (i : Int) : dataOf H n (.int i) = some (.int i) := by cases n <;> rfl
theorem data_bool (n : Nat) (i : Bool) : dataOf H n (.bool i) = some (.bool i) := by cases n <;> rfl
theorem data_none (n : Nat) : dataOf H n .none = some .none := by cases n <;> rfl
theorem cv_eq (x y : Int) : cmpV .eq (.int x) (.int y) H = some (decide (x = y)) := by
  show pyEq H (.int x) (.int y) = _
  unfold pyEq; rw [data_int, data_int]; rfl
theorem cv_ne (x y : Int) : cmpV .ne (.int x) (.int y) H = some (!decide (x = y)) := by
  show flip true (pyEq H (.int x) (.int y)) = _
  have : pyEq H (.int x) (.int y) = some (decide (x = y)) := cv_eq (H := H) x y
  rw [this]; simp [flip]
theorem cv_neB (x y : Bool) : cmpV .ne (.bool x) (.bool y) H = some (!decide (x = y)) := by
  show flip true (pyEq H (.bool x) (.bool y)) = _
  unfold pyEq; rw [data_bool, data_bool]; cases x <;> cases y <;> rfl
theorem cv_isNotB (x y : Bool) : cmpV .isNot (.bool x) (.bool y) H = some (!decide (x = y)) := by
  cases x <;> cases y <;> rfl
theorem cv_isB (x y : Bool) : cmpV .is (.bool x) (.bool y) H = some (decide (x = y)) := by
  cases x <;> cases y <;> rfl
theorem go_eq (x y : Int) (k : Bool → Prop) : getO (cmpV .eq (.int x) (.int y) H) k = k (decide (x = y)) := getO_of (cv_eq x y) k
theorem go_ne (x y : Int) (k : Bool → Prop) : getO (cmpV .ne (.int x) (.int y) H) k = k (!decide (x = y)) := getO_of (cv_ne x y) k
theorem go_neB (x y : Bool) (k : Bool → Prop) : getO (cmpV .ne (.bool x) (.bool y) H) k = k (!decide (x = y)) := getO_of (cv_neB x y) k
theorem go_isNotB (x y : Bool) (k : Bool → Prop) : getO (cmpV .isNot (.bool x) (.bool y) H) k = k (!decide (x = y)) := getO_of (cv_isNotB x y) k
theorem go_isB (x y : Bool) (k : Bool → Prop) : getO (cmpV .is (.bool x) (.bool y) H) k = k (decide (x = y)) := getO_of (cv_isB x y) k
theorem go_lt (x y : Int) (k : Bool → Prop) : getO (cmpV .lt (.int x) (.int y) H) k = k (decide (x < y)) := rfl
theorem go_gt (x y : Int) (k : Bool → Prop) : getO (cmpV .gt (.int x) (.int y) H) k = k (decide (y < x)) := rfl
theorem go_le (x y : Int) (k : Bool → Prop) : getO (cmpV .le (.int x) (.int y) H) k = k (decide (x ≤ y)) := rfl
theorem go_ge (x y : Int) (k : Bool → Prop) : getO (cmpV .ge (.int x) (.int y) H) k = k (decide (y ≤ x)) := rfl
theorem go_isNone_none (k : Bool → Prop) : getO (cmpV .is .none .none H) k = k true := rfl
theorem go_isNone_int (i : Int) (k : Bool → Prop) : getO (cmpV .is (.int i) .none H) k = k false := rfl
theorem go_isNotNone_none (k : Bool → Prop) : getO (cmpV .isNot .none .none H) k = k false := rfl
theorem go_isNotNone_int (i : Int) (k : Bool → Prop) : getO (cmpV .isNot (.int i) .none H) k = k true := rfl
/-! ## kinds -/
theorem wi_kd (v : Val) (t : Ty) (k : Kd) (h : kdOf H v = some k) (ht : ∀ c, t ≠ .cls c) : Wp (isinstV T v t) H Q E = Q (.bool (isKd t k)) H := by
  have e : isinstV T v t H = .ok (.bool (isKd t k)) H := by
    unfold isinstV; rw [look_at]
    cases t with
    | cls c => exact absurd rfl (ht c)
    | _ => simp only [h, Option.map_some]
  unfold Wp; rw [e]
theorem wi_int_int (i : Int) : Wp (isinstV T (.int i) .int) H Q E = Q (.bool true) H := rfl
theorem wi_int_bool (i : Int) : Wp (isinstV T (.int i) .bool) H Q E = Q (.bool false) H := rfl
theorem wi_int_tup (i : Int) : Wp (isinstV T (.int i) .tuple) H Q E = Q (.bool false) H := rfl
theorem wi_int_list (i : Int) : Wp (isinstV T (.int i) .list) H Q E = Q (.bool false) H := rfl
theorem wi_bool_int (i : Bool) : Wp (isinstV T (.bool i) .int) H Q E = Q (.bool true) H := rfl
theorem wi_bool_bool (i : Bool) : Wp (isinstV T (.bool i) .bool) H Q E = Q (.bool true) H := rfl
theorem wi_bool_tup (i : Bool) : Wp (isinstV T (.bool i) .tuple) H Q E = Q (.bool false) H := rfl
theorem wi_none_tup : Wp (isinstV T .none .tuple) H Q E = Q (.bool false) H := rfl
theorem wi_none_int : Wp (isinstV T .none .int) H Q E = Q (.bool false) H := rfl
theorem wi_str_tup (s : Str) : Wp (isinstV T (.str s) .tuple) H Q E = Q (.bool false) H := rfl
theorem wi_str_int (s : Str) : Wp (isinstV T (.str s) .int) H Q E = Q (.bool false) H := rfl
theorem wi_tup_tup (xs : List Val) : Wp (isinstV T (.tup xs) .tuple) H Q E = Q (.bool true) H := rfl
theorem wi_tup_int (xs : List Val) : Wp (isinstV T (.tup xs) .int) H Q E = Q (.bool false) H := rfl
theorem wi_list (l : Nat) (xs : List Val) (h : H[l]? = some (.list xs)) : Wp (isinstV T (.loc l) .list) H Q E = Q (.bool true) H :=
  wi_kd _ _ .list (by simp only [kdOf, h]) (by intro c h; cases h)
theorem wi_list_tup (l : Nat) (xs : List Val) (h : H[l]? = some (.list xs)) : Wp (isinstV T (.loc l) .tuple) H Q E = Q (.bool false) H :=
  wi_kd _ _ .list (by simp only [kdOf, h]) (by intro c h; cases h)
/-! ## items -/
theorem ws_tup0 (x : Val) (xs : List Val) : Wp (subV (.tup (x :: xs)) (.int 0)) H Q E = Q x H := rfl
theorem ws_tup1 (x y : Val) (xs : List Val) : Wp (subV (.tup (x :: y :: xs)) (.int 1)) H Q E = Q y H := rfl
theorem ws_tup2 (x y z : Val) (xs : List Val) : Wp (subV (.tup (x :: y :: z :: xs)) (.int 2)) H Q E = Q z H := rfl
theorem place_nat (k n : Nat) (h : k < n) : placeOf (k : Int) n = some k := by
  unfold placeOf
  rw [if_pos (by omega), if_pos (by omega)]; rfl
theorem place_int (k : Int) (n : Nat) (h0 : 0 ≤ k) (h : k < n) : placeOf k n = some k.toNat := by
  unfold placeOf
  rw [if_pos h0, if_pos h]
theorem ws_list {l : Nat} {xs : List Val} (h : H[l]? = some (.list xs)) {k : Int} {v : Val} (h0 : 0 ≤ k) (hk : xs[k.toNat]? = some v) (q : Q v H) : Wp (subV (.loc l) (.int k)) H Q E := by
  have lt := (List.getElem?_eq_some_iff.mp hk).1
  refine Wp.of_eq ?_ q
  unfold subV; rw [look_at]
  simp only [h, place_int k xs.length h0 (by omega), Option.bind_some, hk]
/-! ## lists -/
theorem fits_append {l : Nat} {xs : List Val} (h : H[l]? = some (.list xs)) : bmFits .append (.loc l) H = some () := by
  unfold bmFits; simp only [h]
theorem fits_clear {l : Nat} {xs : List Val} (h : H[l]? = some (.list xs)) : bmFits .clear (.loc l) H = some () := by
  unfold bmFits; simp only [h]
theorem wm_append {l : Nat} {xs : List Val} {v : Val} (h : H[l]? = some (.list xs)) (hl : xs.length < lid) (q : Q .none (H.set l (.list (xs ++ [v])))) : Wp (bmV .append (.loc l) [v]) H Q E := by
  refine Wp.of_eq ?_ q
  unfold bmV; simp only [h]
  exact if_pos hl
theorem wm_clear {l : Nat} {xs : List Val} (h : H[l]? = some (.list xs)) (q : Q .none (H.set l (.list []))) : Wp (bmV .clear (.loc l) []) H Q E := by
  refine Wp.of_eq ?_ q
  unfold bmV; simp only [h]
/- `x.append(e)` as a statement's expression -/
theorem wp_appendE {i : Nat} {e : ME} {l : Nat} {xs : List Val} (hi : Γ[i]? = some (some (.loc l))) (h : H[l]? = some (.list xs))
    (q : Wp (evalE T Φ e Γ) H (fun v H' => ∃ ys, H'[l]? = some (.list ys) ∧ ys.length < lid ∧ Q .none (H'.set l (.list (ys ++ [v])))) E) : Wp (evalE T Φ (.bm (.var i) .append (.cons e .nil)) Γ) H Q E := by
  rw [wp_bm, wp_var]
  rw [getV_get, hi]
  show getO (bmFits _ _ _) _
  rw [fits_append h]
  show Wp _ _ _ _
  rw [wp_cons]
  refine q.mono ?_ (fun _ _ h => h)
  rintro v H' ⟨ys, hy, hl, q⟩
  rw [wp_nil]
  exact wm_append hy hl q
end
end Mine.Pure

-- part LX
namespace Mine.Pure
open PySem
/-! ## a heap that has grown -/
noncomputable def Ext (H H' : Hp) : Prop := ∃ K, H' = H ++ K
theorem Ext.refl (H : Hp) : Ext H H := ⟨[], by simp⟩
theorem Ext.trans {H H1 H2 : Hp} : Ext H H1 → Ext H1 H2 → Ext H H2
  | ⟨K, e⟩, ⟨L, f⟩ => ⟨K ++ L, by rw [f, e, List.append_assoc]⟩
theorem Ext.new {H H' : Hp} (h : Ext H H') (o : HObj) : Ext H (H' ++ [o]) := h.trans ⟨[o], rfl⟩
theorem Ext.get {H H' : Hp} (h : Ext H H') {l : Nat} {o : HObj} (g : H[l]? = some o) : H'[l]? = some o := by
  obtain ⟨K, rfl⟩ := h
  rw [List.getElem?_append_left (List.getElem?_eq_some_iff.mp g).1]; exact g
theorem Ext.len {H H' : Hp} (h : Ext H H') : H.length ≤ H'.length := by
  obtain ⟨K, rfl⟩ := h; simp
theorem Ext.set {H H' : Hp} (h : Ext H H') {l : Nat} (hl : H.length ≤ l) (o : HObj) : Ext H (H'.set l o) := by
  obtain ⟨K, rfl⟩ := h
  exact ⟨K.set (l - H.length) o, by rw [List.set_append_right _ _ hl]⟩
theorem get_new (H : Hp) (o : HObj) : (H ++ [o])[H.length]? = some o := by simp
theorem lt_of_get {H : Hp} {l : Nat} {o : HObj} (g : H[l]? = some o) : l < H.length := (List.getElem?_eq_some_iff.mp g).1
theorem get_set {H : Hp} {l : Nat} {o : HObj} (o' : HObj) (g : H[l]? = some o) : (H.set l o')[l]? = some o' := by
  rw [List.getElem?_set_self (lt_of_get g)]
theorem get_other {H : Hp} {l m : Nat} {o : HObj} (o' : HObj) (hne : l ≠ m) (g : H[m]? = some o) : (H.set l o')[m]? = some o := by
  rw [List.getElem?_set_ne hne]; exact g
theorem chk_list {H : Hp} {l : Nat} {xs : List Val} (h : H[l]? = some (.list xs)) : chk (some l) xs H = true := by
  simp only [chk, h]; exact sames_refl xs
theorem iter_list {H : Hp} {l : Nat} {xs : List Val} (h : H[l]? = some (.list xs)) : iterOf (.loc l) H = some (xs, some l) := by
  simp only [iterOf, h]
theorem listOf_list {H : Hp} {l : Nat} {xs : List Val} (h : H[l]? = some (.list xs)) : listOf (.loc l) H = some (xs, l) := by
  simp only [listOf, h]
noncomputable def rngL (n : Int) : List Val := (List.range n.toNat).map (fun (k : Nat) => .int (k : Int))
theorem iter_rng {H : Hp} (n : Int) : iterOf (.rng n) H = some (rngL n, none) := rfl
theorem rngL_get {n : Int} {k : Nat} {x : Val} (h : (rngL n)[k]? = some x) : x = .int k ∧ (k : Int) < n := by
  unfold rngL at h
  rw [List.getElem?_map] at h
  cases e : (List.range n.toNat)[k]? with
  | none => rw [e] at h; cases h
  | some j =>
    rw [e] at h
    obtain ⟨lt, g⟩ := List.getElem?_eq_some_iff.mp e
    simp at g lt h
    subst g
    exact ⟨h.symm, by omega⟩
theorem rngL_len (n : Int) : (rngL n).length = n.toNat := by simp [rngL]
section
variable {T : Tab} {Φ : Funs} {Γ : Env'} {H : Hp} {QS : Env' → Hp → Prop} {R : Val → Hp → Prop} {ES : Nat → Env' → Hp → Prop}
theorem wps_seq {s : MS} {ss : MSs} (P : Env' → Hp → Prop) (h : WpS (execS T Φ s Γ H) P R ES) (q : ∀ Γ H, P Γ H → WpS (execSs T Φ ss Γ H) QS R ES) : WpS (execSs T Φ (.cons s ss) Γ H) QS R ES := by
  rw [wps_cons]; exact h.mono q (fun _ _ h => h) (fun _ _ _ h => h)
theorem wps_asg {i : Nat} {e : ME} {ss : MSs} (P : Val → Hp → Prop) (h : Wp (evalE T Φ e Γ) H P NoE) (q : ∀ v H, P v H → WpS (execSs T Φ ss (Γ.set i (some v)) H) QS R ES) : WpS (execSs T Φ (.cons (.assign i e) ss) Γ H) QS R ES := by
  rw [wps_cons, wps_assign]; exact h.then q
theorem wps_ex {e : ME} {ss : MSs} (P : Hp → Prop) (h : Wp (evalE T Φ e Γ) H (fun _ H => P H) NoE) (q : ∀ H, P H → WpS (execSs T Φ ss Γ H) QS R ES) : WpS (execSs T Φ (.cons (.expr e) ss) Γ H) QS R ES := by
  rw [wps_cons, wps_expr]; exact h.then (fun _ => q)
/- an `if` whose condition fails -/
theorem wps_no {c : ME} {t ss : MSs} (P : Hp → Prop) (h : Wp (evalE T Φ c Γ) H (fun v H => v = .bool false ∧ P H) NoE) (q : ∀ H, P H → WpS (execSs T Φ ss Γ H) QS R ES) : WpS (execSs T Φ (.cons (.ite c t .nil) ss) Γ H) QS R ES := by
  rw [wps_cons, wps_ite]
  refine h.then ?_
  rintro v H ⟨rfl, p⟩
  exact q H p
/- an `if` whose condition holds, and that ends the run -/
theorem wps_yes {c : ME} {t f ss : MSs} (P : Hp → Prop) (h : Wp (evalE T Φ c Γ) H (fun v H => v = .bool true ∧ P H) NoE) (q : ∀ H, P H → WpS (execSs T Φ t Γ H) (fun Γ H => WpS (execSs T Φ ss Γ H) QS R ES) R ES) : WpS (execSs T Φ (.cons (.ite c t f) ss) Γ H) QS R ES := by
  rw [wps_cons, wps_ite]
  refine h.then ?_
  rintro v H ⟨rfl, p⟩
  exact q H p
/- `for i in range(e)` -/
theorem wps_eachR {i : Nat} {e : ME} {body : MSs} {n : Int} (I : Nat → Env' → Hp → Prop)
    (he : Wp (evalE T Φ e Γ) H (fun v H' => v = .int n ∧ H' = H) NoE) (hn : -1073741824 ≤ n ∧ n ≤ 1073741824) (h0 : I 0 Γ H)
    (hs : ∀ (k : Nat) Γ H, (k : Int) < n → I k Γ H → WpS (execSs T Φ body (Γ.set i (some (.int k))) H) (I (k + 1)) R NoX)
    (hd : ∀ Γ H, I n.toNat Γ H → QS Γ H) : WpS (execS T Φ (.each i (.bf .range (.cons e .nil)) body) Γ H) QS R ES := by
  apply wps_each
  rw [wp_bf, wp_cons]
  refine he.then ?_
  rintro v H' ⟨rfl, rfl⟩
  rw [wp_nil, wv_range]
  refine ⟨hn, ?_⟩
  show WpS (eachL (chk none (rngL n)) _ _ (rngL n) _ _) _ _ _
  refine wps_eachN I h0 ?_ (fun _ _ _ _ _ => rfl) ?_
  · rw [rngL_len]; exact hd
  · intro k x Γ H hx hi
    obtain ⟨rfl, lt⟩ := rngL_get hx
    exact ⟨_, rfl, hs k Γ H lt hi⟩
end
end Mine.Pure

-- part GT01
namespace Mine
open PySem
/- whole -/
noncomputable def f0_01 : MFun := ⟨3, 0, (.cons (.ite (.or (.not (.isinst (.var 0) .int)) (.isinst (.var 0) .bool)) (.cons (.ret (.some (.bool false))) .nil) .nil) (.cons (.ret (.some (.cmp2 .le .le (.var 1) (.var 0) (.var 2)))) .nil))⟩
/- lies_in -/
noncomputable def f1_01 : MFun := ⟨3, 0, (.cons (.ite (.or (.not (.isinst (.var 2) .tuple)) (.cmp .ne (.bf .len (.cons (.var 2) .nil)) (.int 2))) (.cons (.ret (.some (.bool false))) .nil) .nil) (.cons (.ret (.some (.and (.call 0 (.cons (.sub (.var 2) (.int 0)) (.cons (.int 0) (.cons (.bin .sub (.var 0) (.int 1)) .nil)))) (.call 0 (.cons (.sub (.var 2) (.int 1)) (.cons (.int 0) (.cons (.bin .sub (.var 1) (.int 1)) .nil))))))) .nil))⟩
/- beside -/
noncomputable def f2_01 : MFun := ⟨3, 3, (.cons (.assign 3 (.sub (.var 2) (.int 0))) (.cons (.assign 4 (.sub (.var 2) (.int 1))) (.cons (.assign 5 (.list (.cons (.tup (.cons (.bin .sub (.var 3) (.int 1)) (.cons (.var 4) .nil))) (.cons (.tup (.cons (.var 3) (.cons (.bin .sub (.var 4) (.int 1)) .nil))) (.cons (.tup (.cons (.var 3) (.cons (.bin .add (.var 4) (.int 1)) .nil))) (.cons (.tup (.cons (.bin .add (.var 3) (.int 1)) (.cons (.var 4) .nil))) .nil)))))) (.cons (.ret (.some (.comp (.var 6) (.var 5) (.some (.call 1 (.cons (.var 0) (.cons (.var 1) (.cons (.var 6) .nil)))))))) .nil))))⟩
/- all_cells -/
noncomputable def f3_01 : MFun := ⟨2, 3, (.cons (.assign 2 (.list .nil)) (.cons (.each 3 (.bf .range (.cons (.var 0) .nil)) (.cons (.each 4 (.bf .range (.cons (.var 1) .nil)) (.cons (.expr (.bm (.var 2) .append (.cons (.tup (.cons (.var 3) (.cons (.var 4) .nil))) .nil))) .nil)) .nil)) (.cons (.ret (.some (.var 2))) .nil)))⟩
/- _law_cell_at -/
noncomputable def f4_01 : MFun := ⟨2, 0, (.cons (.ite (.cmp .lt (.var 1) (.bf .len (.cons (.var 0) .nil))) (.cons (.ret (.some (.sub (.var 0) (.var 1)))) .nil) .nil) (.cons (.ret (.some (.int 0))) .nil))⟩
/- _law_whole -/
noncomputable def f5_01 : MFun := ⟨1, 0, (.cons (.ret (.some (.and (.isinst (.var 0) .int) (.not (.isinst (.var 0) .bool))))) .nil)⟩
/- _law_same_cells -/
noncomputable def f6_01 : MFun := ⟨2, 2, (.cons (.ite (.or (.not (.isinst (.var 0) .list)) (.cmp .ne (.bf .len (.cons (.var 0) .nil)) (.bf .len (.cons (.var 1) .nil)))) (.cons (.ret (.some (.bool false))) .nil) .nil) (.cons (.eachZip 2 3 (.var 0) (.var 1) (.cons (.ite (.or (.not (.isinst (.var 2) .tuple)) (.or (.cmp .ne (.bf .len (.cons (.var 2) .nil)) (.int 2)) (.or (.not (.call 5 (.cons (.sub (.var 2) (.int 0)) .nil))) (.not (.call 5 (.cons (.sub (.var 2) (.int 1)) .nil)))))) (.cons (.ret (.some (.bool false))) .nil) .nil) (.cons (.ite (.or (.cmp .ne (.sub (.var 2) (.int 0)) (.sub (.var 3) (.int 0))) (.cmp .ne (.sub (.var 2) (.int 1)) (.sub (.var 3) (.int 1)))) (.cons (.ret (.some (.bool false))) .nil) .nil) .nil))) (.cons (.ret (.some (.bool true))) .nil)))⟩
/- _law_thing -/
noncomputable def f7_01 : MFun := ⟨3, 3, (.cons (.assign 3 (.bin .sub (.bin .mod (.bin .fdiv (.var 0) (.int 9)) (.bin .add (.var 1) (.int 2))) (.int 1))) (.cons (.assign 4 (.bin .sub (.bin .mod (.bin .fdiv (.var 0) (.int 300)) (.bin .add (.var 2) (.int 2))) (.int 1))) (.cons (.ite (.cmp .lt (.bin .mod (.var 0) (.int 12)) (.int 4)) (.cons (.ret (.some (.tup (.cons (.var 3) (.cons (.var 4) .nil))))) .nil) .nil) (.cons (.assign 5 (.list (.cons (.list (.cons (.var 3) (.cons (.var 4) .nil))) (.cons (.tup (.cons (.var 3) (.cons (.var 4) (.cons (.int 0) .nil)))) (.cons (.tup (.cons (.bool true) (.cons (.bool false) .nil))) (.cons (.tup (.cons (.var 3) .nil)) (.cons (.str "ab") (.cons (.tup (.cons (.str "0") (.cons (.var 4) .nil))) (.cons (.tup (.cons (.var 3) (.cons .none .nil))) .nil))))))))) (.cons (.expr (.bm (.var 5) .append (.cons (.tup (.cons (.tup (.cons (.var 3) (.cons (.var 4) .nil))) (.cons (.int 0) .nil))) .nil))) (.cons (.ret (.some (.sub (.var 5) (.bin .sub (.bin .mod (.var 0) (.int 12)) (.int 4))))) .nil))))))⟩
/- _law_is_cell -/
noncomputable def f8_01 : MFun := ⟨3, 0, (.cons (.ite (.or (.not (.isinst (.var 0) .tuple)) (.or (.cmp .ne (.bf .len (.cons (.var 0) .nil)) (.int 2)) (.or (.not (.call 5 (.cons (.sub (.var 0) (.int 0)) .nil))) (.not (.call 5 (.cons (.sub (.var 0) (.int 1)) .nil)))))) (.cons (.ret (.some (.bool false))) .nil) .nil) (.cons (.ret (.some (.and (.cmp2 .le .lt (.int 0) (.sub (.var 0) (.int 0)) (.var 1)) (.cmp2 .le .lt (.int 0) (.sub (.var 0) (.int 1)) (.var 2))))) .nil))⟩
/- _law_due -/
noncomputable def f9_01 : MFun := ⟨4, 1, (.cons (.assign 4 (.list .nil)) (.cons (.ite (.cmp .gt (.var 2) (.int 0)) (.cons (.expr (.bm (.var 4) .append (.cons (.tup (.cons (.bin .sub (.var 2) (.int 1)) (.cons (.var 3) .nil))) .nil))) .nil) .nil) (.cons (.ite (.cmp .gt (.var 3) (.int 0)) (.cons (.expr (.bm (.var 4) .append (.cons (.tup (.cons (.var 2) (.cons (.bin .sub (.var 3) (.int 1)) .nil))) .nil))) .nil) .nil) (.cons (.ite (.cmp .lt (.var 3) (.bin .sub (.var 1) (.int 1))) (.cons (.expr (.bm (.var 4) .append (.cons (.tup (.cons (.var 2) (.cons (.bin .add (.var 3) (.int 1)) .nil))) .nil))) .nil) .nil) (.cons (.ite (.cmp .lt (.var 2) (.bin .sub (.var 0) (.int 1))) (.cons (.expr (.bm (.var 4) .append (.cons (.tup (.cons (.bin .add (.var 2) (.int 1)) (.cons (.var 3) .nil))) .nil))) .nil) .nil) (.cons (.ret (.some (.var 4))) .nil))))))⟩
/- law -/
noncomputable def f10_01 : MFun := ⟨1, 11, (.cons (.assign 1 (.bin .add (.int 1) (.bin .mod (.call 4 (.cons (.var 0) (.cons (.int 0) .nil))) (.int 30)))) (.cons (.assign 2 (.bin .add (.int 1) (.bin .mod (.call 4 (.cons (.var 0) (.cons (.int 1) .nil))) (.int 30)))) (.cons (.assign 3 (.sub (.list (.cons (.int 0) (.cons (.bin .sub (.var 1) (.int 1)) (.cons (.bin .mod (.bin .fdiv (.call 4 (.cons (.var 0) (.cons (.int 2) .nil))) (.int 3)) (.var 1)) .nil)))) (.bin .mod (.call 4 (.cons (.var 0) (.cons (.int 2) .nil))) (.int 3)))) (.cons (.assign 4 (.sub (.list (.cons (.int 0) (.cons (.bin .sub (.var 2) (.int 1)) (.cons (.bin .mod (.bin .fdiv (.call 4 (.cons (.var 0) (.cons (.int 3) .nil))) (.int 3)) (.var 2)) .nil)))) (.bin .mod (.call 4 (.cons (.var 0) (.cons (.int 3) .nil))) (.int 3)))) (.cons (.each 5 (.bf .range (.cons (.int 2) .nil)) (.cons (.assign 6 (.call 2 (.cons (.var 1) (.cons (.var 2) (.cons (.tup (.cons (.var 3) (.cons (.var 4) .nil))) .nil))))) (.cons (.ite (.not (.call 6 (.cons (.var 6) (.cons (.call 9 (.cons (.var 1) (.cons (.var 2) (.cons (.var 3) (.cons (.var 4) .nil))))) .nil)))) (.cons (.ret (.some (.bool false))) .nil) .nil) (.cons (.expr (.bm (.var 6) .append (.cons (.tup (.cons (.int 0) (.cons (.int 0) .nil))) .nil))) .nil)))) (.cons (.assign 7 (.call 7 (.cons (.call 4 (.cons (.var 0) (.cons (.int 4) .nil))) (.cons (.var 1) (.cons (.var 2) .nil))))) (.cons (.assign 6 (.call 1 (.cons (.var 1) (.cons (.var 2) (.cons (.var 7) .nil))))) (.cons (.ite (.or (.not (.isinst (.var 6) .bool)) (.cmp .ne (.var 6) (.call 8 (.cons (.var 7) (.cons (.var 1) (.cons (.var 2) .nil)))))) (.cons (.ret (.some (.bool false))) .nil) .nil) (.cons (.ite (.or (.cmp .ne (.glob 0) (.int 30)) (.or (.cmp .isNot (.call 1 (.cons (.var 1) (.cons (.var 2) (.cons .none .nil)))) (.bool false)) (.cmp .isNot (.call 1 (.cons (.var 1) (.cons (.var 2) (.cons (.int 7) .nil)))) (.bool false)))) (.cons (.ret (.some (.bool false))) .nil) .nil) (.cons (.assign 8 (.sub (.list (.cons (.bin .add (.int 1) (.bin .mod (.var 2) (.int 4))) (.cons (.var 2) .nil))) (.bf .int (.cons (.cmp .eq (.bin .mod (.call 4 (.cons (.var 0) (.cons (.int 5) .nil))) (.int 4)) (.int 1)) .nil)))) (.cons (.assign 9 (.list .nil)) (.cons (.each 10 (.bf .range (.cons (.var 1) .nil)) (.cons (.each 11 (.bf .range (.cons (.var 8) .nil)) (.cons (.expr (.bm (.var 9) .append (.cons (.tup (.cons (.var 10) (.cons (.var 11) .nil))) .nil))) .nil)) .nil)) (.cons (.each 5 (.bf .range (.cons (.int 2) .nil)) (.cons (.assign 6 (.call 3 (.cons (.var 1) (.cons (.var 8) .nil)))) (.cons (.ite (.not (.call 6 (.cons (.var 6) (.cons (.var 9) .nil)))) (.cons (.ret (.some (.bool false))) .nil) .nil) (.cons (.expr (.bm (.var 6) .clear .nil)) .nil)))) (.cons (.ret (.some (.bool true))) .nil))))))))))))))⟩
noncomputable def T_01 : Tab := ⟨[f0_01, f1_01, f2_01, f3_01, f4_01, f5_01, f6_01, f7_01, f8_01, f9_01, f10_01], [], [], [.int 30]⟩
noncomputable def N_01 : Names := ⟨[("whole", 0), ("lies_in", 1), ("beside", 2), ("all_cells", 3), ("_law_cell_at", 4), ("_law_whole", 5), ("_law_same_cells", 6), ("_law_thing", 7), ("_law_is_cell", 8), ("_law_due", 9), ("law", 10)], [], [("MOST_SIDE", 0)], [], [("__init__", 0)]⟩
noncomputable def V_01 : List (List Str) := [["thing", "low", "high"], ["rows", "columns", "cell"], ["rows", "columns", "cell", "row", "column", "near"], ["rows", "columns", "found", "row", "column"], ["_law_script", "_law_k"], ["_law_found"], ["_law_found", "_law_due_here", "_law_one", "_law_cell"], ["_law_cell", "_law_rows", "_law_columns", "_law_row", "_law_column", "_law_some"], ["_law_thing_here", "_law_rows", "_law_columns"], ["_law_rows", "_law_columns", "_law_row", "_law_column", "_law_due_here"], ["_law_script", "_law_rows", "_law_columns", "_law_row", "_law_column", "_law_turn", "_law_found", "_law_thing_here", "_law_few", "_law_due_here", "_law_one", "_law_other"]]
end Mine

-- part L01
namespace Mine.Pure
open PySem
noncomputable def cellAt (ns : List Int) (k : Nat) : Int := ns.getD k 0
theorem l01_cell_at (d : Nat) (ns : List Int) (k : Nat) (H : Hp) : Wp (callF T_01 (d + 1) 4 [.script ns, .int k]) H (fun v H' => v = .int (cellAt ns k) ∧ H' = H) NoE := by
  rw [wp_call (g := f4_01) rfl rfl]
  simp only [f4_01, ↓wp_none, ↓wp_bool, ↓wp_int, ↓wp_str, ↓wp_glob, ↓wp_var, ↓wp_bin, ↓wp_not, ↓wp_and, ↓wp_or, ↓wp_cmp, ↓wp_cmp2, ↓wp_sub, ↓wp_oNone, ↓wp_oSome, ↓wp_tup, ↓wp_list, ↓wp_callE, ↓wp_bf, ↓wp_bm, ↓wp_isinst, ↓wp_nil, ↓wp_cons, ↓wps_nil, ↓wps_cons, ↓wps_pass, ↓wps_expr, ↓wps_assign, ↓wps_ret, ↓wps_ite, ↓wv_add, ↓wv_sub, ↓wv_mul, ↓wv_fdiv, ↓wv_mod, ↓wv_range, ↓wv_len_script, ↓wv_len_tup, ↓wv_int, ↓go_eq, ↓go_ne, ↓go_neB, ↓go_isNotB, ↓go_isB, ↓go_lt, ↓go_gt, ↓go_le, ↓go_ge, ↓go_isNone_none, ↓go_isNone_int, ↓go_isNotNone_none, ↓go_isNotNone_int, ↓wi_int_int, ↓wi_int_bool, ↓wi_int_tup, ↓wi_int_list, ↓wi_bool_int, ↓wi_bool_bool, ↓wi_bool_tup, ↓wi_none_tup, ↓wi_none_int, ↓wi_str_tup, ↓wi_str_int, ↓wi_tup_tup, ↓wi_tup_int, ↓ws_tup0, ↓ws_tup1, ↓ws_tup2, ↓getV_zero, ↓getV_succ, ↓asBool_bool, ↓getO_some, ↓brB_true, ↓brB_false, ↓brB_not, ↓wp_ret, List.map_cons, List.map_nil, List.cons_append, List.nil_append, List.set_cons_zero, List.set_cons_succ, List.replicate_succ, List.replicate_zero, Bool.not_true, Bool.not_false, and_true, true_and, and_self]
  refine brB_split ?_ ?_
  · intro h
    have h' : k < ns.length := by omega
    rw [sub_script (v := ns[k]) (by simp), wp_ret]
    simp [cellAt, h']
  · intro h
    have h' : ns.length ≤ k := by omega
    simp [cellAt, h']
/- what may be asked of -/
noncomputable def Pl : Val → Prop
  | .none => True
  | .bool _ => True
  | .int _ => True
  | .str _ => True
  | .tup _ => True
  | _ => False
noncomputable def inR (lo hi : Int) : Val → Bool
  | .int i => decide (lo ≤ i) && decide (i ≤ hi)
  | _ => false
theorem l01_whole (d : Nat) (v : Val) (lo hi : Int) (H : Hp) (p : Pl v) : Wp (callF T_01 (d + 1) 0 [v, .int lo, .int hi]) H (fun r H' => r = .bool (inR lo hi v) ∧ H' = H) NoE := by
  cases v with
  | none => exact (show (Val.bool false = Val.bool false) ∧ (H = H) from ⟨rfl, rfl⟩)
  | bool b => exact (show (Val.bool false = Val.bool false) ∧ (H = H) from ⟨rfl, rfl⟩)
  | str b => exact (show (Val.bool false = Val.bool false) ∧ (H = H) from ⟨rfl, rfl⟩)
  | tup b => exact (show (Val.bool false = Val.bool false) ∧ (H = H) from ⟨rfl, rfl⟩)
  | int i =>
    rw [wp_call (g := f0_01) rfl rfl]
    simp only [f0_01, ↓wp_none, ↓wp_bool, ↓wp_int, ↓wp_str, ↓wp_glob, ↓wp_var, ↓wp_bin, ↓wp_not, ↓wp_and, ↓wp_or, ↓wp_cmp, ↓wp_cmp2, ↓wp_sub, ↓wp_oNone, ↓wp_oSome, ↓wp_tup, ↓wp_list, ↓wp_callE, ↓wp_bf, ↓wp_bm, ↓wp_isinst, ↓wp_nil, ↓wp_cons, ↓wps_nil, ↓wps_cons, ↓wps_pass, ↓wps_expr, ↓wps_assign, ↓wps_ret, ↓wps_ite, ↓wv_add, ↓wv_sub, ↓wv_mul, ↓wv_fdiv, ↓wv_mod, ↓wv_range, ↓wv_len_script, ↓wv_len_tup, ↓wv_int, ↓go_eq, ↓go_ne, ↓go_neB, ↓go_isNotB, ↓go_isB, ↓go_lt, ↓go_gt, ↓go_le, ↓go_ge, ↓go_isNone_none, ↓go_isNone_int, ↓go_isNotNone_none, ↓go_isNotNone_int, ↓wi_int_int, ↓wi_int_bool, ↓wi_int_tup, ↓wi_int_list, ↓wi_bool_int, ↓wi_bool_bool, ↓wi_bool_tup, ↓wi_none_tup, ↓wi_none_int, ↓wi_str_tup, ↓wi_str_int, ↓wi_tup_tup, ↓wi_tup_int, ↓ws_tup0, ↓ws_tup1, ↓ws_tup2, ↓getV_zero, ↓getV_succ, ↓asBool_bool, ↓getO_some, ↓brB_true, ↓brB_false, ↓brB_not, ↓wp_ret, List.map_cons, List.map_nil, List.cons_append, List.nil_append, List.set_cons_zero, List.set_cons_succ, List.replicate_succ, List.replicate_zero, Bool.not_true, Bool.not_false, and_true, true_and, and_self]
    refine brB_split ?_ ?_
    · intro h; simp [inR, h]
    · intro h; simp [inR, h]
  | _ => exact p.elim
noncomputable def lies (r c : Int) : Val → Bool
  | .tup [a, b] => inR 0 (r - 1) a && inR 0 (c - 1) b
  | _ => false
noncomputable def PlC (H : Hp) : Val → Prop
  | .none => True
  | .int _ => True
  | .str _ => True
  | .tup vs => ∀ v ∈ vs, Pl v
  | .loc l => ∃ xs, H[l]? = some (.list xs)
  | _ => False
theorem lies_other (r c : Int) (vs : List Val) (h : vs.length ≠ 2) : lies r c (.tup vs) = false := by
  match vs with
  | [] => rfl
  | [a] => rfl
  | [a, b] => exact absurd rfl h
  | a :: b :: e :: g => rfl
theorem l01_lies_in (d : Nat) (r c : Int) (v : Val) (H : Hp) (p : PlC H v) : Wp (callF T_01 (d + 2) 1 [.int r, .int c, v]) H (fun x H' => x = .bool (lies r c v) ∧ H' = H) NoE := by
  cases v with
  | none => exact (show (Val.bool false = Val.bool false) ∧ (H = H) from ⟨rfl, rfl⟩)
  | str b => exact (show (Val.bool false = Val.bool false) ∧ (H = H) from ⟨rfl, rfl⟩)
  | int b => exact (show (Val.bool false = Val.bool false) ∧ (H = H) from ⟨rfl, rfl⟩)
  | loc l =>
    obtain ⟨xs, h⟩ := p
    rw [wp_call (g := f1_01) rfl rfl]
    simp only [f1_01, ↓wp_none, ↓wp_bool, ↓wp_int, ↓wp_str, ↓wp_glob, ↓wp_var, ↓wp_bin, ↓wp_not, ↓wp_and, ↓wp_or, ↓wp_cmp, ↓wp_cmp2, ↓wp_sub, ↓wp_oNone, ↓wp_oSome, ↓wp_tup, ↓wp_list, ↓wp_callE, ↓wp_bf, ↓wp_bm, ↓wp_isinst, ↓wp_nil, ↓wp_cons, ↓wps_nil, ↓wps_cons, ↓wps_pass, ↓wps_expr, ↓wps_assign, ↓wps_ret, ↓wps_ite, ↓wv_add, ↓wv_sub, ↓wv_mul, ↓wv_fdiv, ↓wv_mod, ↓wv_range, ↓wv_len_script, ↓wv_len_tup, ↓wv_int, ↓go_eq, ↓go_ne, ↓go_neB, ↓go_isNotB, ↓go_isB, ↓go_lt, ↓go_gt, ↓go_le, ↓go_ge, ↓go_isNone_none, ↓go_isNone_int, ↓go_isNotNone_none, ↓go_isNotNone_int, ↓wi_int_int, ↓wi_int_bool, ↓wi_int_tup, ↓wi_int_list, ↓wi_bool_int, ↓wi_bool_bool, ↓wi_bool_tup, ↓wi_none_tup, ↓wi_none_int, ↓wi_str_tup, ↓wi_str_int, ↓wi_tup_tup, ↓wi_tup_int, ↓ws_tup0, ↓ws_tup1, ↓ws_tup2, ↓getV_zero, ↓getV_succ, ↓asBool_bool, ↓getO_some, ↓brB_true, ↓brB_false, ↓brB_not, ↓wp_ret, List.map_cons, List.map_nil, List.cons_append, List.nil_append, List.set_cons_zero, List.set_cons_succ, List.replicate_succ, List.replicate_zero, Bool.not_true, Bool.not_false, and_true, true_and, and_self, wi_list_tup l xs h, lies]
  | tup vs =>
    rw [wp_call (g := f1_01) rfl rfl]
    by_cases h2 : vs.length = 2
    · match vs, h2 with
      | [a, b], _ =>
        simp only [f1_01, ↓wp_none, ↓wp_bool, ↓wp_int, ↓wp_str, ↓wp_glob, ↓wp_var, ↓wp_bin, ↓wp_not, ↓wp_and, ↓wp_or, ↓wp_cmp, ↓wp_cmp2, ↓wp_sub, ↓wp_oNone, ↓wp_oSome, ↓wp_tup, ↓wp_list, ↓wp_callE, ↓wp_bf, ↓wp_bm, ↓wp_isinst, ↓wp_nil, ↓wp_cons, ↓wps_nil, ↓wps_cons, ↓wps_pass, ↓wps_expr, ↓wps_assign, ↓wps_ret, ↓wps_ite, ↓wv_add, ↓wv_sub, ↓wv_mul, ↓wv_fdiv, ↓wv_mod, ↓wv_range, ↓wv_len_script, ↓wv_len_tup, ↓wv_int, ↓go_eq, ↓go_ne, ↓go_neB, ↓go_isNotB, ↓go_isB, ↓go_lt, ↓go_gt, ↓go_le, ↓go_ge, ↓go_isNone_none, ↓go_isNone_int, ↓go_isNotNone_none, ↓go_isNotNone_int, ↓wi_int_int, ↓wi_int_bool, ↓wi_int_tup, ↓wi_int_list, ↓wi_bool_int, ↓wi_bool_bool, ↓wi_bool_tup, ↓wi_none_tup, ↓wi_none_int, ↓wi_str_tup, ↓wi_str_int, ↓wi_tup_tup, ↓wi_tup_int, ↓ws_tup0, ↓ws_tup1, ↓ws_tup2, ↓getV_zero, ↓getV_succ, ↓asBool_bool, ↓getO_some, ↓brB_true, ↓brB_false, ↓brB_not, ↓wp_ret, List.map_cons, List.map_nil, List.cons_append, List.nil_append, List.set_cons_zero, List.set_cons_succ, List.replicate_succ, List.replicate_zero, Bool.not_true, Bool.not_false, and_true, true_and, and_self, List.length_cons, List.length_nil]
        simp only [brB_pos (show ((0 + 1 + 1 : Nat) : Int) = 2 from rfl)]
        refine (l01_whole d a _ _ H (p a (by simp))).then ?_
        rintro x H' ⟨rfl, rfl⟩
        simp only [↓wp_none, ↓wp_bool, ↓wp_int, ↓wp_str, ↓wp_glob, ↓wp_var, ↓wp_bin, ↓wp_not, ↓wp_and, ↓wp_or, ↓wp_cmp, ↓wp_cmp2, ↓wp_sub, ↓wp_oNone, ↓wp_oSome, ↓wp_tup, ↓wp_list, ↓wp_callE, ↓wp_bf, ↓wp_bm, ↓wp_isinst, ↓wp_nil, ↓wp_cons, ↓wps_nil, ↓wps_cons, ↓wps_pass, ↓wps_expr, ↓wps_assign, ↓wps_ret, ↓wps_ite, ↓wv_add, ↓wv_sub, ↓wv_mul, ↓wv_fdiv, ↓wv_mod, ↓wv_range, ↓wv_len_script, ↓wv_len_tup, ↓wv_int, ↓go_eq, ↓go_ne, ↓go_neB, ↓go_isNotB, ↓go_isB, ↓go_lt, ↓go_gt, ↓go_le, ↓go_ge, ↓go_isNone_none, ↓go_isNone_int, ↓go_isNotNone_none, ↓go_isNotNone_int, ↓wi_int_int, ↓wi_int_bool, ↓wi_int_tup, ↓wi_int_list, ↓wi_bool_int, ↓wi_bool_bool, ↓wi_bool_tup, ↓wi_none_tup, ↓wi_none_int, ↓wi_str_tup, ↓wi_str_int, ↓wi_tup_tup, ↓wi_tup_int, ↓ws_tup0, ↓ws_tup1, ↓ws_tup2, ↓getV_zero, ↓getV_succ, ↓asBool_bool, ↓getO_some, ↓brB_true, ↓brB_false, ↓brB_not, ↓wp_ret, List.map_cons, List.map_nil, List.cons_append, List.nil_append, List.set_cons_zero, List.set_cons_succ, List.replicate_succ, List.replicate_zero, Bool.not_true, Bool.not_false, and_true, true_and, and_self]
        refine brB_cases ?_ ?_
        · intro h
          refine (l01_whole d b _ _ H' (p b (by simp))).then ?_
          rintro x H' ⟨rfl, rfl⟩
          simp [lies, h]
        · intro h; simp [lies, h]
    · simp only [f1_01, ↓wp_none, ↓wp_bool, ↓wp_int, ↓wp_str, ↓wp_glob, ↓wp_var, ↓wp_bin, ↓wp_not, ↓wp_and, ↓wp_or, ↓wp_cmp, ↓wp_cmp2, ↓wp_sub, ↓wp_oNone, ↓wp_oSome, ↓wp_tup, ↓wp_list, ↓wp_callE, ↓wp_bf, ↓wp_bm, ↓wp_isinst, ↓wp_nil, ↓wp_cons, ↓wps_nil, ↓wps_cons, ↓wps_pass, ↓wps_expr, ↓wps_assign, ↓wps_ret, ↓wps_ite, ↓wv_add, ↓wv_sub, ↓wv_mul, ↓wv_fdiv, ↓wv_mod, ↓wv_range, ↓wv_len_script, ↓wv_len_tup, ↓wv_int, ↓go_eq, ↓go_ne, ↓go_neB, ↓go_isNotB, ↓go_isB, ↓go_lt, ↓go_gt, ↓go_le, ↓go_ge, ↓go_isNone_none, ↓go_isNone_int, ↓go_isNotNone_none, ↓go_isNotNone_int, ↓wi_int_int, ↓wi_int_bool, ↓wi_int_tup, ↓wi_int_list, ↓wi_bool_int, ↓wi_bool_bool, ↓wi_bool_tup, ↓wi_none_tup, ↓wi_none_int, ↓wi_str_tup, ↓wi_str_int, ↓wi_tup_tup, ↓wi_tup_int, ↓ws_tup0, ↓ws_tup1, ↓ws_tup2, ↓getV_zero, ↓getV_succ, ↓asBool_bool, ↓getO_some, ↓brB_true, ↓brB_false, ↓brB_not, ↓wp_ret, List.map_cons, List.map_nil, List.cons_append, List.nil_append, List.set_cons_zero, List.set_cons_succ, List.replicate_succ, List.replicate_zero, Bool.not_true, Bool.not_false, and_true, true_and, and_self]
      have : ¬ ((vs.length : Int) = 2) := by omega
      simp only [brB_neg this, ↓wp_none, ↓wp_bool, ↓wp_int, ↓wp_str, ↓wp_glob, ↓wp_var, ↓wp_bin, ↓wp_not, ↓wp_and, ↓wp_or, ↓wp_cmp, ↓wp_cmp2, ↓wp_sub, ↓wp_oNone, ↓wp_oSome, ↓wp_tup, ↓wp_list, ↓wp_callE, ↓wp_bf, ↓wp_bm, ↓wp_isinst, ↓wp_nil, ↓wp_cons, ↓wps_nil, ↓wps_cons, ↓wps_pass, ↓wps_expr, ↓wps_assign, ↓wps_ret, ↓wps_ite, ↓wv_add, ↓wv_sub, ↓wv_mul, ↓wv_fdiv, ↓wv_mod, ↓wv_range, ↓wv_len_script, ↓wv_len_tup, ↓wv_int, ↓go_eq, ↓go_ne, ↓go_neB, ↓go_isNotB, ↓go_isB, ↓go_lt, ↓go_gt, ↓go_le, ↓go_ge, ↓go_isNone_none, ↓go_isNone_int, ↓go_isNotNone_none, ↓go_isNotNone_int, ↓wi_int_int, ↓wi_int_bool, ↓wi_int_tup, ↓wi_int_list, ↓wi_bool_int, ↓wi_bool_bool, ↓wi_bool_tup, ↓wi_none_tup, ↓wi_none_int, ↓wi_str_tup, ↓wi_str_int, ↓wi_tup_tup, ↓wi_tup_int, ↓ws_tup0, ↓ws_tup1, ↓ws_tup2, ↓getV_zero, ↓getV_succ, ↓asBool_bool, ↓getO_some, ↓brB_true, ↓brB_false, ↓brB_not, ↓wp_ret, List.map_cons, List.map_nil, List.cons_append, List.nil_append, List.set_cons_zero, List.set_cons_succ, List.replicate_succ, List.replicate_zero, Bool.not_true, Bool.not_false, and_true, true_and, and_self]
      rw [lies_other _ _ _ h2]
  | _ => exact p.elim
noncomputable def pr (p : Int × Int) : Val := .tup [.int p.1, .int p.2]
noncomputable def nearL (r c : Int) : List (Int × Int) := [(r - 1, c), (r, c - 1), (r, c + 1), (r + 1, c)]
noncomputable def liesP (R C : Int) (p : Int × Int) : Bool := lies R C (pr p)
theorem l01_beside (d : Nat) (R C r c : Int) (H : Hp) : Wp (callF T_01 (d + 3) 2 [.int R, .int C, .tup [.int r, .int c]]) H
    (fun x H' => ∃ l, x = .loc l ∧ H.length ≤ l ∧ Ext H H' ∧ H'[l]? = some (.list (((nearL r c).filter (liesP R C)).map pr))) NoE := by
  rw [wp_call (g := f2_01) rfl rfl]
  simp only [f2_01, ↓wp_none, ↓wp_bool, ↓wp_int, ↓wp_str, ↓wp_glob, ↓wp_var, ↓wp_bin, ↓wp_not, ↓wp_and, ↓wp_or, ↓wp_cmp, ↓wp_cmp2, ↓wp_sub, ↓wp_oNone, ↓wp_oSome, ↓wp_tup, ↓wp_list, ↓wp_callE, ↓wp_bf, ↓wp_bm, ↓wp_isinst, ↓wp_nil, ↓wp_cons, ↓wps_nil, ↓wps_cons, ↓wps_pass, ↓wps_expr, ↓wps_assign, ↓wps_ret, ↓wps_ite, ↓wv_add, ↓wv_sub, ↓wv_mul, ↓wv_fdiv, ↓wv_mod, ↓wv_range, ↓wv_len_script, ↓wv_len_tup, ↓wv_int, ↓go_eq, ↓go_ne, ↓go_neB, ↓go_isNotB, ↓go_isB, ↓go_lt, ↓go_gt, ↓go_le, ↓go_ge, ↓go_isNone_none, ↓go_isNone_int, ↓go_isNotNone_none, ↓go_isNotNone_int, ↓wi_int_int, ↓wi_int_bool, ↓wi_int_tup, ↓wi_int_list, ↓wi_bool_int, ↓wi_bool_bool, ↓wi_bool_tup, ↓wi_none_tup, ↓wi_none_int, ↓wi_str_tup, ↓wi_str_int, ↓wi_tup_tup, ↓wi_tup_int, ↓ws_tup0, ↓ws_tup1, ↓ws_tup2, ↓getV_zero, ↓getV_succ, ↓asBool_bool, ↓getO_some, ↓brB_true, ↓brB_false, ↓brB_not, ↓wp_ret, List.map_cons, List.map_nil, List.cons_append, List.nil_append, List.set_cons_zero, List.set_cons_succ, List.replicate_succ, List.replicate_zero, Bool.not_true, Bool.not_false, and_true, true_and, and_self]
  apply wp_comp
  simp only [↓wp_none, ↓wp_bool, ↓wp_int, ↓wp_str, ↓wp_glob, ↓wp_var, ↓wp_bin, ↓wp_not, ↓wp_and, ↓wp_or, ↓wp_cmp, ↓wp_cmp2, ↓wp_sub, ↓wp_oNone, ↓wp_oSome, ↓wp_tup, ↓wp_list, ↓wp_callE, ↓wp_bf, ↓wp_bm, ↓wp_isinst, ↓wp_nil, ↓wp_cons, ↓wps_nil, ↓wps_cons, ↓wps_pass, ↓wps_expr, ↓wps_assign, ↓wps_ret, ↓wps_ite, ↓wv_add, ↓wv_sub, ↓wv_mul, ↓wv_fdiv, ↓wv_mod, ↓wv_range, ↓wv_len_script, ↓wv_len_tup, ↓wv_int, ↓go_eq, ↓go_ne, ↓go_neB, ↓go_isNotB, ↓go_isB, ↓go_lt, ↓go_gt, ↓go_le, ↓go_ge, ↓go_isNone_none, ↓go_isNone_int, ↓go_isNotNone_none, ↓go_isNotNone_int, ↓wi_int_int, ↓wi_int_bool, ↓wi_int_tup, ↓wi_int_list, ↓wi_bool_int, ↓wi_bool_bool, ↓wi_bool_tup, ↓wi_none_tup, ↓wi_none_int, ↓wi_str_tup, ↓wi_str_int, ↓wi_tup_tup, ↓wi_tup_int, ↓ws_tup0, ↓ws_tup1, ↓ws_tup2, ↓getV_zero, ↓getV_succ, ↓asBool_bool, ↓getO_some, ↓brB_true, ↓brB_false, ↓brB_not, ↓wp_ret, List.map_cons, List.map_nil, List.cons_append, List.nil_append, List.set_cons_zero, List.set_cons_succ, List.replicate_succ, List.replicate_zero, Bool.not_true, Bool.not_false, and_true, true_and, and_self, iter_list (get_new _ _)]
  refine wp_compL (fun ys out H2 => H2 = H ++ [.list ((nearL r c).map pr)] ∧ ∃ done todo, nearL r c = done ++ todo ∧ ys = todo.map pr ∧ out = (done.filter (liesP R C)).map pr) _ [] _ ⟨rfl, [], nearL r c, rfl, rfl, rfl⟩ ?_ ?_ ?_
  · rintro ys out H2 ⟨rfl, _⟩
    exact chk_list (get_new _ _)
  · rintro x ys out H2 ⟨rfl, done, todo, e1, e2, e3⟩
    cases todo with
    | nil => cases e2
    | cons p todo =>
      simp only [List.map_cons, List.cons.injEq] at e2
      obtain ⟨rfl, rfl⟩ := e2
      apply wp_step
      simp only [↓wp_cSome, ↓wp_none, ↓wp_bool, ↓wp_int, ↓wp_str, ↓wp_glob, ↓wp_var, ↓wp_bin, ↓wp_not, ↓wp_and, ↓wp_or, ↓wp_cmp, ↓wp_cmp2, ↓wp_sub, ↓wp_oNone, ↓wp_oSome, ↓wp_tup, ↓wp_list, ↓wp_callE, ↓wp_bf, ↓wp_bm, ↓wp_isinst, ↓wp_nil, ↓wp_cons, ↓wps_nil, ↓wps_cons, ↓wps_pass, ↓wps_expr, ↓wps_assign, ↓wps_ret, ↓wps_ite, ↓wv_add, ↓wv_sub, ↓wv_mul, ↓wv_fdiv, ↓wv_mod, ↓wv_range, ↓wv_len_script, ↓wv_len_tup, ↓wv_int, ↓go_eq, ↓go_ne, ↓go_neB, ↓go_isNotB, ↓go_isB, ↓go_lt, ↓go_gt, ↓go_le, ↓go_ge, ↓go_isNone_none, ↓go_isNone_int, ↓go_isNotNone_none, ↓go_isNotNone_int, ↓wi_int_int, ↓wi_int_bool, ↓wi_int_tup, ↓wi_int_list, ↓wi_bool_int, ↓wi_bool_bool, ↓wi_bool_tup, ↓wi_none_tup, ↓wi_none_int, ↓wi_str_tup, ↓wi_str_int, ↓wi_tup_tup, ↓wi_tup_int, ↓ws_tup0, ↓ws_tup1, ↓ws_tup2, ↓getV_zero, ↓getV_succ, ↓asBool_bool, ↓getO_some, ↓brB_true, ↓brB_false, ↓brB_not, ↓wp_ret, List.map_cons, List.map_nil, List.cons_append, List.nil_append, List.set_cons_zero, List.set_cons_succ, List.replicate_succ, List.replicate_zero, Bool.not_true, Bool.not_false, and_true, true_and, and_self]
      refine (l01_lies_in d R C (pr p) _ (by intro v hv; simp at hv; rcases hv with rfl | rfl <;> trivial)).then ?_
      rintro x H' ⟨rfl, rfl⟩
      simp only [↓wp_none, ↓wp_bool, ↓wp_int, ↓wp_str, ↓wp_glob, ↓wp_var, ↓wp_bin, ↓wp_not, ↓wp_and, ↓wp_or, ↓wp_cmp, ↓wp_cmp2, ↓wp_sub, ↓wp_oNone, ↓wp_oSome, ↓wp_tup, ↓wp_list, ↓wp_callE, ↓wp_bf, ↓wp_bm, ↓wp_isinst, ↓wp_nil, ↓wp_cons, ↓wps_nil, ↓wps_cons, ↓wps_pass, ↓wps_expr, ↓wps_assign, ↓wps_ret, ↓wps_ite, ↓wv_add, ↓wv_sub, ↓wv_mul, ↓wv_fdiv, ↓wv_mod, ↓wv_range, ↓wv_len_script, ↓wv_len_tup, ↓wv_int, ↓go_eq, ↓go_ne, ↓go_neB, ↓go_isNotB, ↓go_isB, ↓go_lt, ↓go_gt, ↓go_le, ↓go_ge, ↓go_isNone_none, ↓go_isNone_int, ↓go_isNotNone_none, ↓go_isNotNone_int, ↓wi_int_int, ↓wi_int_bool, ↓wi_int_tup, ↓wi_int_list, ↓wi_bool_int, ↓wi_bool_bool, ↓wi_bool_tup, ↓wi_none_tup, ↓wi_none_int, ↓wi_str_tup, ↓wi_str_int, ↓wi_tup_tup, ↓wi_tup_int, ↓ws_tup0, ↓ws_tup1, ↓ws_tup2, ↓getV_zero, ↓getV_succ, ↓asBool_bool, ↓getO_some, ↓brB_true, ↓brB_false, ↓brB_not, ↓wp_ret, List.map_cons, List.map_nil, List.cons_append, List.nil_append, List.set_cons_zero, List.set_cons_succ, List.replicate_succ, List.replicate_zero, Bool.not_true, Bool.not_false, and_true, true_and, and_self]
      refine brB_cases ?_ ?_
      · intro h
        refine ⟨done ++ [p], todo, by rw [e1]; simp, rfl, ?_⟩
        rw [e3]; simp [liesP, h]
      · intro h
        refine ⟨done ++ [p], todo, by rw [e1]; simp, rfl, ?_⟩
        rw [e3]; simp [liesP, h]
  · rintro zs H2 ⟨rfl, done, todo, e1, e2, e3⟩
    have : todo = [] := by cases todo with | nil => rfl | cons a b => cases e2
    subst this
    simp only [List.append_nil, List.nil_append] at e1 e3
    subst e3; rw [← e1]
    have hl : (List.map pr (List.filter (liesP R C) (nearL r c))).length < lid := by
      rw [List.length_map]
      refine Nat.lt_of_le_of_lt (List.length_filter_le _ _) ?_
      show 4 < lid
      decide
    exact ⟨hl, _, rfl, by simp, (Ext.refl H |>.new _).new _, get_new _ _⟩
theorem l01_whole' (d : Nat) (v : Val) (H : Hp) (p : Pl v) : Wp (callF T_01 (d + 1) 5 [v]) H (fun r H' => r = .bool (match v with | .int _ => true | _ => false) ∧ H' = H) NoE := by
  cases v with
  | none => exact (show (Val.bool false = Val.bool false) ∧ (H = H) from ⟨rfl, rfl⟩)
  | bool b => exact (show (Val.bool false = Val.bool false) ∧ (H = H) from ⟨rfl, rfl⟩)
  | str b => exact (show (Val.bool false = Val.bool false) ∧ (H = H) from ⟨rfl, rfl⟩)
  | tup b => exact (show (Val.bool false = Val.bool false) ∧ (H = H) from ⟨rfl, rfl⟩)
  | int b => exact (show (Val.bool true = Val.bool true) ∧ (H = H) from ⟨rfl, rfl⟩)
  | _ => exact p.elim
theorem pairUp_same : ∀ (ps : List (Int × Int)), pairUp (ps.map pr) (ps.map pr) = ps.map (fun p => .tup [pr p, pr p])
  | [] => rfl
  | p :: ps => by simp only [List.map_cons, pairUp, pairUp_same ps]
theorem l01_same (d : Nat) (l m : Nat) (ps : List (Int × Int)) (H : Hp) (h1 : H[l]? = some (.list (ps.map pr))) (h2 : H[m]? = some (.list (ps.map pr))) :
    Wp (callF T_01 (d + 2) 6 [.loc l, .loc m]) H (fun r H' => r = .bool true ∧ Ext H H') NoE := by
  rw [wp_call (g := f6_01) rfl rfl]
  simp only [f6_01, ↓wp_none, ↓wp_bool, ↓wp_int, ↓wp_str, ↓wp_glob, ↓wp_var, ↓wp_bin, ↓wp_not, ↓wp_and, ↓wp_or, ↓wp_cmp, ↓wp_cmp2, ↓wp_sub, ↓wp_oNone, ↓wp_oSome, ↓wp_tup, ↓wp_list, ↓wp_callE, ↓wp_bf, ↓wp_bm, ↓wp_isinst, ↓wp_nil, ↓wp_cons, ↓wps_nil, ↓wps_cons, ↓wps_pass, ↓wps_expr, ↓wps_assign, ↓wps_ret, ↓wps_ite, ↓wv_add, ↓wv_sub, ↓wv_mul, ↓wv_fdiv, ↓wv_mod, ↓wv_range, ↓wv_len_script, ↓wv_len_tup, ↓wv_int, ↓go_eq, ↓go_ne, ↓go_neB, ↓go_isNotB, ↓go_isB, ↓go_lt, ↓go_gt, ↓go_le, ↓go_ge, ↓go_isNone_none, ↓go_isNone_int, ↓go_isNotNone_none, ↓go_isNotNone_int, ↓wi_int_int, ↓wi_int_bool, ↓wi_int_tup, ↓wi_int_list, ↓wi_bool_int, ↓wi_bool_bool, ↓wi_bool_tup, ↓wi_none_tup, ↓wi_none_int, ↓wi_str_tup, ↓wi_str_int, ↓wi_tup_tup, ↓wi_tup_int, ↓ws_tup0, ↓ws_tup1, ↓ws_tup2, ↓getV_zero, ↓getV_succ, ↓asBool_bool, ↓getO_some, ↓brB_true, ↓brB_false, ↓brB_not, ↓wp_ret, List.map_cons, List.map_nil, List.cons_append, List.nil_append, List.set_cons_zero, List.set_cons_succ, List.replicate_succ, List.replicate_zero, Bool.not_true, Bool.not_false, and_true, true_and, and_self, wi_list _ _ h1, wv_len_loc h1, wv_len_loc h2, brB_pos]
  apply wps_eachZip
  simp only [↓wp_none, ↓wp_bool, ↓wp_int, ↓wp_str, ↓wp_glob, ↓wp_var, ↓wp_bin, ↓wp_not, ↓wp_and, ↓wp_or, ↓wp_cmp, ↓wp_cmp2, ↓wp_sub, ↓wp_oNone, ↓wp_oSome, ↓wp_tup, ↓wp_list, ↓wp_callE, ↓wp_bf, ↓wp_bm, ↓wp_isinst, ↓wp_nil, ↓wp_cons, ↓wps_nil, ↓wps_cons, ↓wps_pass, ↓wps_expr, ↓wps_assign, ↓wps_ret, ↓wps_ite, ↓wv_add, ↓wv_sub, ↓wv_mul, ↓wv_fdiv, ↓wv_mod, ↓wv_range, ↓wv_len_script, ↓wv_len_tup, ↓wv_int, ↓go_eq, ↓go_ne, ↓go_neB, ↓go_isNotB, ↓go_isB, ↓go_lt, ↓go_gt, ↓go_le, ↓go_ge, ↓go_isNone_none, ↓go_isNone_int, ↓go_isNotNone_none, ↓go_isNotNone_int, ↓wi_int_int, ↓wi_int_bool, ↓wi_int_tup, ↓wi_int_list, ↓wi_bool_int, ↓wi_bool_bool, ↓wi_bool_tup, ↓wi_none_tup, ↓wi_none_int, ↓wi_str_tup, ↓wi_str_int, ↓wi_tup_tup, ↓wi_tup_int, ↓ws_tup0, ↓ws_tup1, ↓ws_tup2, ↓getV_zero, ↓getV_succ, ↓asBool_bool, ↓getO_some, ↓brB_true, ↓brB_false, ↓brB_not, ↓wp_ret, List.map_cons, List.map_nil, List.cons_append, List.nil_append, List.set_cons_zero, List.set_cons_succ, List.replicate_succ, List.replicate_zero, Bool.not_true, Bool.not_false, and_true, true_and, and_self, listOf_list h1, listOf_list h2, true_and, pairUp_same]
  refine wps_eachN (fun k Γ H2 => H2 = H ++ [.hid] ∧ ∃ a b, Γ = [some (.loc l), some (.loc m), a, b]) ⟨rfl, _, _, rfl⟩ ?_ ?_ ?_
  · rintro Γ H2 ⟨rfl, a, b, rfl⟩
    exact (Ext.refl H).new _
  · rintro k Γ H2 _ ⟨rfl, _⟩
    rw [chk_list ((Ext.refl H).new _ |>.get h1), chk_list ((Ext.refl H).new _ |>.get h2)]
    simp [isHid]
  · rintro k x Γ H2 hx ⟨rfl, a, b, rfl⟩
    rw [List.getElem?_map] at hx
    cases hp : ps[k]? with
    | none => rw [hp] at hx; cases hx
    | some p =>
      rw [hp] at hx; cases hx
      refine ⟨_, rfl, ?_⟩
      simp only [↓wp_none, ↓wp_bool, ↓wp_int, ↓wp_str, ↓wp_glob, ↓wp_var, ↓wp_bin, ↓wp_not, ↓wp_and, ↓wp_or, ↓wp_cmp, ↓wp_cmp2, ↓wp_sub, ↓wp_oNone, ↓wp_oSome, ↓wp_tup, ↓wp_list, ↓wp_callE, ↓wp_bf, ↓wp_bm, ↓wp_isinst, ↓wp_nil, ↓wp_cons, ↓wps_nil, ↓wps_cons, ↓wps_pass, ↓wps_expr, ↓wps_assign, ↓wps_ret, ↓wps_ite, ↓wv_add, ↓wv_sub, ↓wv_mul, ↓wv_fdiv, ↓wv_mod, ↓wv_range, ↓wv_len_script, ↓wv_len_tup, ↓wv_int, ↓go_eq, ↓go_ne, ↓go_neB, ↓go_isNotB, ↓go_isB, ↓go_lt, ↓go_gt, ↓go_le, ↓go_ge, ↓go_isNone_none, ↓go_isNone_int, ↓go_isNotNone_none, ↓go_isNotNone_int, ↓wi_int_int, ↓wi_int_bool, ↓wi_int_tup, ↓wi_int_list, ↓wi_bool_int, ↓wi_bool_bool, ↓wi_bool_tup, ↓wi_none_tup, ↓wi_none_int, ↓wi_str_tup, ↓wi_str_int, ↓wi_tup_tup, ↓wi_tup_int, ↓ws_tup0, ↓ws_tup1, ↓ws_tup2, ↓getV_zero, ↓getV_succ, ↓asBool_bool, ↓getO_some, ↓brB_true, ↓brB_false, ↓brB_not, ↓wp_ret, List.map_cons, List.map_nil, List.cons_append, List.nil_append, List.set_cons_zero, List.set_cons_succ, List.replicate_succ, List.replicate_zero, Bool.not_true, Bool.not_false, and_true, true_and, and_self, pr, List.length_cons, List.length_nil]
      simp only [brB_pos (show ((0 + 1 + 1 : Nat) : Int) = 2 from rfl)]
      refine (l01_whole' d (.int _) _ trivial).then ?_
      rintro r H' ⟨rfl, rfl⟩
      simp only [↓wp_none, ↓wp_bool, ↓wp_int, ↓wp_str, ↓wp_glob, ↓wp_var, ↓wp_bin, ↓wp_not, ↓wp_and, ↓wp_or, ↓wp_cmp, ↓wp_cmp2, ↓wp_sub, ↓wp_oNone, ↓wp_oSome, ↓wp_tup, ↓wp_list, ↓wp_callE, ↓wp_bf, ↓wp_bm, ↓wp_isinst, ↓wp_nil, ↓wp_cons, ↓wps_nil, ↓wps_cons, ↓wps_pass, ↓wps_expr, ↓wps_assign, ↓wps_ret, ↓wps_ite, ↓wv_add, ↓wv_sub, ↓wv_mul, ↓wv_fdiv, ↓wv_mod, ↓wv_range, ↓wv_len_script, ↓wv_len_tup, ↓wv_int, ↓go_eq, ↓go_ne, ↓go_neB, ↓go_isNotB, ↓go_isB, ↓go_lt, ↓go_gt, ↓go_le, ↓go_ge, ↓go_isNone_none, ↓go_isNone_int, ↓go_isNotNone_none, ↓go_isNotNone_int, ↓wi_int_int, ↓wi_int_bool, ↓wi_int_tup, ↓wi_int_list, ↓wi_bool_int, ↓wi_bool_bool, ↓wi_bool_tup, ↓wi_none_tup, ↓wi_none_int, ↓wi_str_tup, ↓wi_str_int, ↓wi_tup_tup, ↓wi_tup_int, ↓ws_tup0, ↓ws_tup1, ↓ws_tup2, ↓getV_zero, ↓getV_succ, ↓asBool_bool, ↓getO_some, ↓brB_true, ↓brB_false, ↓brB_not, ↓wp_ret, List.map_cons, List.map_nil, List.cons_append, List.nil_append, List.set_cons_zero, List.set_cons_succ, List.replicate_succ, List.replicate_zero, Bool.not_true, Bool.not_false, and_true, true_and, and_self]
      refine (l01_whole' d (.int _) _ trivial).then ?_
      rintro r H' ⟨rfl, rfl⟩
      simp only [↓wp_none, ↓wp_bool, ↓wp_int, ↓wp_str, ↓wp_glob, ↓wp_var, ↓wp_bin, ↓wp_not, ↓wp_and, ↓wp_or, ↓wp_cmp, ↓wp_cmp2, ↓wp_sub, ↓wp_oNone, ↓wp_oSome, ↓wp_tup, ↓wp_list, ↓wp_callE, ↓wp_bf, ↓wp_bm, ↓wp_isinst, ↓wp_nil, ↓wp_cons, ↓wps_nil, ↓wps_cons, ↓wps_pass, ↓wps_expr, ↓wps_assign, ↓wps_ret, ↓wps_ite, ↓wv_add, ↓wv_sub, ↓wv_mul, ↓wv_fdiv, ↓wv_mod, ↓wv_range, ↓wv_len_script, ↓wv_len_tup, ↓wv_int, ↓go_eq, ↓go_ne, ↓go_neB, ↓go_isNotB, ↓go_isB, ↓go_lt, ↓go_gt, ↓go_le, ↓go_ge, ↓go_isNone_none, ↓go_isNone_int, ↓go_isNotNone_none, ↓go_isNotNone_int, ↓wi_int_int, ↓wi_int_bool, ↓wi_int_tup, ↓wi_int_list, ↓wi_bool_int, ↓wi_bool_bool, ↓wi_bool_tup, ↓wi_none_tup, ↓wi_none_int, ↓wi_str_tup, ↓wi_str_int, ↓wi_tup_tup, ↓wi_tup_int, ↓ws_tup0, ↓ws_tup1, ↓ws_tup2, ↓getV_zero, ↓getV_succ, ↓asBool_bool, ↓getO_some, ↓brB_true, ↓brB_false, ↓brB_not, ↓wp_ret, List.map_cons, List.map_nil, List.cons_append, List.nil_append, List.set_cons_zero, List.set_cons_succ, List.replicate_succ, List.replicate_zero, Bool.not_true, Bool.not_false, and_true, true_and, and_self, brB_pos]
      exact ⟨_, _, rfl⟩
/-! ## the grid -/
noncomputable def rowL (i : Nat) (n : Nat) : List (Int × Int) := (List.range n).map fun (j : Nat) => ((i : Int), (j : Int))
noncomputable def gridL (C : Nat) (n : Nat) : List (Int × Int) := (List.range n).flatMap fun i => rowL i C
theorem rowL_succ (i n : Nat) : rowL i (n + 1) = rowL i n ++ [((i : Int), (n : Int))] := by simp [rowL, List.range_succ]
theorem gridL_succ (C n : Nat) : gridL C (n + 1) = gridL C n ++ rowL n C := by simp [gridL, List.range_succ]
theorem rowL_len (i n : Nat) : (rowL i n).length = n := by simp [rowL]
theorem gridL_len (C : Nat) : ∀ n, (gridL C n).length = n * C
  | 0 => by simp [gridL]
  | n + 1 => by rw [gridL_succ, List.length_append, gridL_len C n, rowL_len, Nat.succ_mul]
theorem set_same {H : Hp} {l : Nat} {o : HObj} (h : H[l]? = some o) : H.set l o = H := by
  apply List.ext_getElem?
  intro m
  by_cases e : l = m
  · subst e; rw [get_set _ h, h]
  · rw [List.getElem?_set_ne e]
theorem getV_of {Γ : Env'} {i : Nat} {v : Val} {k : Val → Prop} (h : Γ[i]? = some (some v)) : getV Γ i k = k v := by rw [getV_get, h]; rfl
section
variable {T : Tab} {Φ : Funs} {Γ : Env'} {H : Hp} {QS : Env' → Hp → Prop} {R : Val → Hp → Prop} {ES : Nat → Env' → Hp → Prop}
theorem wps_grid {i j x a b l : Nat} {m n : Nat} (P : Env' → Prop) (hi : ∀ Γ v, P Γ → P (Γ.set i (some v))) (hj : ∀ Γ v, P Γ → P (Γ.set j (some v)))
    (hx : ∀ Γ, P Γ → Γ[x]? = some (some (.loc l))) (hb : ∀ Γ, P Γ → Γ[b]? = some (some (.int n))) (ha : ∀ Γ, P Γ → Γ[a]? = some (some (.int m))) (hli : ∀ Γ, P Γ → i < Γ.length) (hlj : ∀ Γ, P Γ → j < Γ.length)
    (hij : i ≠ j) (hm : m ≤ 1000) (hn : n ≤ 1000) (hP : P Γ) (hl : H[l]? = some (.list []))
    (q : ∀ Γ, P Γ → QS Γ (H.set l (.list ((gridL n m).map pr)))) :
    WpS (execS T Φ (.each i (.bf .range (.cons (.var a) .nil)) (.cons (.each j (.bf .range (.cons (.var b) .nil)) (.cons (.expr (.bm (.var x) .append (.cons (.tup (.cons (.var i) (.cons (.var j) .nil))) .nil))) .nil)) .nil)) Γ H) QS R ES := by
  refine wps_eachR (n := (m : Int)) (fun k Γ H' => k ≤ m ∧ P Γ ∧ H' = H.set l (.list ((gridL n k).map pr))) ?_ (by omega) ⟨Nat.zero_le _, hP, ?_⟩ ?_ ?_
  · rw [wp_var, getV_of (ha _ hP)]; exact ⟨rfl, rfl⟩
  · exact (set_same hl).symm
  · rintro k Γ H' hk ⟨hkm, p, rfl⟩
    rw [wps_cons]
    have pi := hi Γ (.int k) p
    refine wps_eachR (n := (n : Int)) (fun k2 Γ' H' => k2 ≤ n ∧ P Γ' ∧ Γ'[i]? = some (some (.int k)) ∧ H' = H.set l (.list ((gridL n k ++ rowL k k2).map pr))) ?_ (by omega) ⟨Nat.zero_le _, pi, ?_, ?_⟩ ?_ ?_
    · rw [wp_var, getV_of (hb _ pi)]; exact ⟨rfl, rfl⟩
    · rw [List.getElem?_set_self (hli _ p)]
    · simp [rowL]
    · rintro k2 Γ' H' hk2 ⟨hk2n, p', e, rfl⟩
      have pj := hj Γ' (.int k2) p'
      rw [wps_cons, wps_expr]
      have g : (H.set l (.list ((gridL n k ++ rowL k k2).map pr)))[l]? = some (.list ((gridL n k ++ rowL k k2).map pr)) := get_set _ hl
      refine wp_appendE (hx _ pj) g ?_
      rw [wp_tup, wp_cons, wp_var, getV_of (v := .int k) (by rw [List.getElem?_set_ne (Ne.symm hij)]; exact e), wp_cons, wp_var, getV_of (v := .int k2) (by rw [List.getElem?_set_self (hlj _ p')]), wp_nil]
      refine ⟨_, g, ?_, ?_⟩
      · rw [List.length_map, List.length_append, gridL_len, rowL_len]
        have : k * n ≤ 1000 * 1000 := Nat.mul_le_mul (by omega) hn
        have : lid = 16777216 := rfl
        omega
      · rw [wps_nil]
        refine ⟨by omega, pj, ?_, ?_⟩
        · rw [List.getElem?_set_ne (Ne.symm hij)]; exact e
        · rw [List.set_set, rowL_succ, ← List.append_assoc, List.map_append (l₁ := gridL n k ++ rowL k k2) (l₂ := [_])]; rfl
    · rintro Γ' H' ⟨hk2n, p', e, rfl⟩
      rw [wps_nil]
      rw [Int.toNat_natCast, ← gridL_succ]
      exact ⟨by omega, p', rfl⟩
  · rintro Γ' H' ⟨_, p, rfl⟩
    rw [Int.toNat_natCast]
    exact q _ p
end
theorem l01_all_cells (d : Nat) (m n : Nat) (H : Hp) (hm : m ≤ 1000) (hn : n ≤ 1000) : Wp (callF T_01 (d + 1) 3 [.int m, .int n]) H
    (fun x H' => ∃ l, x = .loc l ∧ H.length ≤ l ∧ Ext H H' ∧ H'[l]? = some (.list ((gridL n m).map pr))) NoE := by
  rw [wp_call (g := f3_01) rfl rfl]
  simp only [f3_01, ↓wp_none, ↓wp_bool, ↓wp_int, ↓wp_str, ↓wp_glob, ↓wp_var, ↓wp_bin, ↓wp_not, ↓wp_and, ↓wp_or, ↓wp_cmp, ↓wp_cmp2, ↓wp_sub, ↓wp_oNone, ↓wp_oSome, ↓wp_tup, ↓wp_list, ↓wp_callE, ↓wp_bf, ↓wp_bm, ↓wp_isinst, ↓wp_nil, ↓wp_cons, ↓wps_nil, ↓wps_cons, ↓wps_pass, ↓wps_expr, ↓wps_assign, ↓wps_ret, ↓wps_ite, ↓wv_add, ↓wv_sub, ↓wv_mul, ↓wv_fdiv, ↓wv_mod, ↓wv_range, ↓wv_len_script, ↓wv_len_tup, ↓wv_int, ↓go_eq, ↓go_ne, ↓go_neB, ↓go_isNotB, ↓go_isB, ↓go_lt, ↓go_gt, ↓go_le, ↓go_ge, ↓go_isNone_none, ↓go_isNone_int, ↓go_isNotNone_none, ↓go_isNotNone_int, ↓wi_int_int, ↓wi_int_bool, ↓wi_int_tup, ↓wi_int_list, ↓wi_bool_int, ↓wi_bool_bool, ↓wi_bool_tup, ↓wi_none_tup, ↓wi_none_int, ↓wi_str_tup, ↓wi_str_int, ↓wi_tup_tup, ↓wi_tup_int, ↓ws_tup0, ↓ws_tup1, ↓ws_tup2, ↓getV_zero, ↓getV_succ, ↓asBool_bool, ↓getO_some, ↓brB_true, ↓brB_false, ↓brB_not, ↓wp_ret, List.map_cons, List.map_nil, List.cons_append, List.nil_append, List.set_cons_zero, List.set_cons_succ, List.replicate_succ, List.replicate_zero, Bool.not_true, Bool.not_false, and_true, true_and, and_self]
  refine wps_grid (l := H.length) (m := m) (n := n) (fun Γ => ∃ a b, Γ = [some (.int m), some (.int n), some (.loc H.length), a, b]) ?_ ?_ ?_ ?_ ?_ ?_ ?_ (by decide) hm hn ⟨_, _, rfl⟩ (get_new _ _) ?_
  · rintro Γ v ⟨a, b, rfl⟩; exact ⟨_, _, rfl⟩
  · rintro Γ v ⟨a, b, rfl⟩; exact ⟨_, _, rfl⟩
  · rintro Γ ⟨a, b, rfl⟩; rfl
  · rintro Γ ⟨a, b, rfl⟩; rfl
  · rintro Γ ⟨a, b, rfl⟩; rfl
  · rintro Γ ⟨a, b, rfl⟩; simp
  · rintro Γ ⟨a, b, rfl⟩; simp
  · rintro Γ ⟨a, b, rfl⟩
    simp only [↓wp_none, ↓wp_bool, ↓wp_int, ↓wp_str, ↓wp_glob, ↓wp_var, ↓wp_bin, ↓wp_not, ↓wp_and, ↓wp_or, ↓wp_cmp, ↓wp_cmp2, ↓wp_sub, ↓wp_oNone, ↓wp_oSome, ↓wp_tup, ↓wp_list, ↓wp_callE, ↓wp_bf, ↓wp_bm, ↓wp_isinst, ↓wp_nil, ↓wp_cons, ↓wps_nil, ↓wps_cons, ↓wps_pass, ↓wps_expr, ↓wps_assign, ↓wps_ret, ↓wps_ite, ↓wv_add, ↓wv_sub, ↓wv_mul, ↓wv_fdiv, ↓wv_mod, ↓wv_range, ↓wv_len_script, ↓wv_len_tup, ↓wv_int, ↓go_eq, ↓go_ne, ↓go_neB, ↓go_isNotB, ↓go_isB, ↓go_lt, ↓go_gt, ↓go_le, ↓go_ge, ↓go_isNone_none, ↓go_isNone_int, ↓go_isNotNone_none, ↓go_isNotNone_int, ↓wi_int_int, ↓wi_int_bool, ↓wi_int_tup, ↓wi_int_list, ↓wi_bool_int, ↓wi_bool_bool, ↓wi_bool_tup, ↓wi_none_tup, ↓wi_none_int, ↓wi_str_tup, ↓wi_str_int, ↓wi_tup_tup, ↓wi_tup_int, ↓ws_tup0, ↓ws_tup1, ↓ws_tup2, ↓getV_zero, ↓getV_succ, ↓asBool_bool, ↓getO_some, ↓brB_true, ↓brB_false, ↓brB_not, ↓wp_ret, List.map_cons, List.map_nil, List.cons_append, List.nil_append, List.set_cons_zero, List.set_cons_succ, List.replicate_succ, List.replicate_zero, Bool.not_true, Bool.not_false, and_true, true_and, and_self]
    exact ⟨_, rfl, Nat.le_refl _, ((Ext.refl H).new _).set (Nat.le_refl _) _, get_set _ (get_new _ _)⟩
/-! ## the law -/
theorem fmod_rng (x : Int) {m : Int} (h : 0 < m) : 0 ≤ x.fmod m ∧ x.fmod m < m := ⟨Int.fmod_nonneg_of_pos x h, Int.fmod_lt_of_pos x h⟩
noncomputable def isC (R C : Int) : Val → Bool
  | .tup [.int a, .int b] => decide (0 ≤ a ∧ a < R) && decide (0 ≤ b ∧ b < C)
  | _ => false
theorem isC_lies (R C : Int) (v : Val) : lies R C v = isC R C v := by
  unfold lies isC
  split
  · rename_i a b
    cases a <;> cases b <;> simp [inR]
    rename_i i j
    have e1 : decide (i ≤ R - 1) = decide (i < R) := decide_eq_decide.mpr (by omega)
    have e2 : decide (j ≤ C - 1) = decide (j < C) := decide_eq_decide.mpr (by omega)
    rw [e1, e2]
  · rename_i h
    split
    · rename_i a b
      exact absurd rfl (h (.int a) (.int b))
    · rfl
theorem isC_other (r c : Int) (vs : List Val) (h : vs.length ≠ 2) : isC r c (.tup vs) = false := by rw [← isC_lies]; exact lies_other r c vs h
noncomputable def isI : Val → Bool
  | .int _ => true
  | _ => false
theorem isC_no (R C : Int) (a b : Val) (h : isI a = false ∨ isI b = false) : isC R C (.tup [a, b]) = false := by
  unfold isC
  split
  · rename_i e; cases e; rcases h with h | h <;> cases h
  · rfl
theorem l01_isI (d : Nat) (v : Val) (H : Hp) (p : Pl v) : Wp (callF T_01 (d + 1) 5 [v]) H (fun r H' => r = .bool (isI v) ∧ H' = H) NoE := by
  refine (l01_whole' d v H p).mono ?_ (fun _ _ h => h)
  rintro r H' ⟨rfl, rfl⟩
  cases v <;> exact ⟨rfl, rfl⟩
theorem l01_is_cell (d : Nat) (r c : Int) (v : Val) (H : Hp) (p : PlC H v) : Wp (callF T_01 (d + 2) 8 [v, .int r, .int c]) H (fun x H' => x = .bool (isC r c v) ∧ H' = H) NoE := by
  cases v with
  | none => exact (show (Val.bool false = Val.bool false) ∧ (H = H) from ⟨rfl, rfl⟩)
  | str b => exact (show (Val.bool false = Val.bool false) ∧ (H = H) from ⟨rfl, rfl⟩)
  | int b => exact (show (Val.bool false = Val.bool false) ∧ (H = H) from ⟨rfl, rfl⟩)
  | loc l =>
    obtain ⟨xs, h⟩ := p
    rw [wp_call (g := f8_01) rfl rfl]
    simp only [f8_01, ↓wp_none, ↓wp_bool, ↓wp_int, ↓wp_str, ↓wp_glob, ↓wp_var, ↓wp_bin, ↓wp_not, ↓wp_and, ↓wp_or, ↓wp_cmp, ↓wp_cmp2, ↓wp_sub, ↓wp_oNone, ↓wp_oSome, ↓wp_tup, ↓wp_list, ↓wp_callE, ↓wp_bf, ↓wp_bm, ↓wp_isinst, ↓wp_nil, ↓wp_cons, ↓wps_nil, ↓wps_cons, ↓wps_pass, ↓wps_expr, ↓wps_assign, ↓wps_ret, ↓wps_ite, ↓wv_add, ↓wv_sub, ↓wv_mul, ↓wv_fdiv, ↓wv_mod, ↓wv_range, ↓wv_len_script, ↓wv_len_tup, ↓wv_int, ↓go_eq, ↓go_ne, ↓go_neB, ↓go_isNotB, ↓go_isB, ↓go_lt, ↓go_gt, ↓go_le, ↓go_ge, ↓go_isNone_none, ↓go_isNone_int, ↓go_isNotNone_none, ↓go_isNotNone_int, ↓wi_int_int, ↓wi_int_bool, ↓wi_int_tup, ↓wi_int_list, ↓wi_bool_int, ↓wi_bool_bool, ↓wi_bool_tup, ↓wi_none_tup, ↓wi_none_int, ↓wi_str_tup, ↓wi_str_int, ↓wi_tup_tup, ↓wi_tup_int, ↓ws_tup0, ↓ws_tup1, ↓ws_tup2, ↓getV_zero, ↓getV_succ, ↓asBool_bool, ↓getO_some, ↓brB_true, ↓brB_false, ↓brB_not, ↓wp_ret, List.map_cons, List.map_nil, List.cons_append, List.nil_append, List.set_cons_zero, List.set_cons_succ, List.replicate_succ, List.replicate_zero, Bool.not_true, Bool.not_false, and_true, true_and, and_self, wi_list_tup l xs h, isC]
  | tup vs =>
    rw [wp_call (g := f8_01) rfl rfl]
    by_cases h2 : vs.length = 2
    · match vs, h2 with
      | [a, b], _ =>
        simp only [f8_01, ↓wp_none, ↓wp_bool, ↓wp_int, ↓wp_str, ↓wp_glob, ↓wp_var, ↓wp_bin, ↓wp_not, ↓wp_and, ↓wp_or, ↓wp_cmp, ↓wp_cmp2, ↓wp_sub, ↓wp_oNone, ↓wp_oSome, ↓wp_tup, ↓wp_list, ↓wp_callE, ↓wp_bf, ↓wp_bm, ↓wp_isinst, ↓wp_nil, ↓wp_cons, ↓wps_nil, ↓wps_cons, ↓wps_pass, ↓wps_expr, ↓wps_assign, ↓wps_ret, ↓wps_ite, ↓wv_add, ↓wv_sub, ↓wv_mul, ↓wv_fdiv, ↓wv_mod, ↓wv_range, ↓wv_len_script, ↓wv_len_tup, ↓wv_int, ↓go_eq, ↓go_ne, ↓go_neB, ↓go_isNotB, ↓go_isB, ↓go_lt, ↓go_gt, ↓go_le, ↓go_ge, ↓go_isNone_none, ↓go_isNone_int, ↓go_isNotNone_none, ↓go_isNotNone_int, ↓wi_int_int, ↓wi_int_bool, ↓wi_int_tup, ↓wi_int_list, ↓wi_bool_int, ↓wi_bool_bool, ↓wi_bool_tup, ↓wi_none_tup, ↓wi_none_int, ↓wi_str_tup, ↓wi_str_int, ↓wi_tup_tup, ↓wi_tup_int, ↓ws_tup0, ↓ws_tup1, ↓ws_tup2, ↓getV_zero, ↓getV_succ, ↓asBool_bool, ↓getO_some, ↓brB_true, ↓brB_false, ↓brB_not, ↓wp_ret, List.map_cons, List.map_nil, List.cons_append, List.nil_append, List.set_cons_zero, List.set_cons_succ, List.replicate_succ, List.replicate_zero, Bool.not_true, Bool.not_false, and_true, true_and, and_self, List.length_cons, List.length_nil]
        simp only [brB_pos (show ((0 + 1 + 1 : Nat) : Int) = 2 from rfl)]
        refine (l01_isI d a H (p a (by simp))).then ?_
        rintro x H' ⟨rfl, rfl⟩
        simp only [↓wp_none, ↓wp_bool, ↓wp_int, ↓wp_str, ↓wp_glob, ↓wp_var, ↓wp_bin, ↓wp_not, ↓wp_and, ↓wp_or, ↓wp_cmp, ↓wp_cmp2, ↓wp_sub, ↓wp_oNone, ↓wp_oSome, ↓wp_tup, ↓wp_list, ↓wp_callE, ↓wp_bf, ↓wp_bm, ↓wp_isinst, ↓wp_nil, ↓wp_cons, ↓wps_nil, ↓wps_cons, ↓wps_pass, ↓wps_expr, ↓wps_assign, ↓wps_ret, ↓wps_ite, ↓wv_add, ↓wv_sub, ↓wv_mul, ↓wv_fdiv, ↓wv_mod, ↓wv_range, ↓wv_len_script, ↓wv_len_tup, ↓wv_int, ↓go_eq, ↓go_ne, ↓go_neB, ↓go_isNotB, ↓go_isB, ↓go_lt, ↓go_gt, ↓go_le, ↓go_ge, ↓go_isNone_none, ↓go_isNone_int, ↓go_isNotNone_none, ↓go_isNotNone_int, ↓wi_int_int, ↓wi_int_bool, ↓wi_int_tup, ↓wi_int_list, ↓wi_bool_int, ↓wi_bool_bool, ↓wi_bool_tup, ↓wi_none_tup, ↓wi_none_int, ↓wi_str_tup, ↓wi_str_int, ↓wi_tup_tup, ↓wi_tup_int, ↓ws_tup0, ↓ws_tup1, ↓ws_tup2, ↓getV_zero, ↓getV_succ, ↓asBool_bool, ↓getO_some, ↓brB_true, ↓brB_false, ↓brB_not, ↓wp_ret, List.map_cons, List.map_nil, List.cons_append, List.nil_append, List.set_cons_zero, List.set_cons_succ, List.replicate_succ, List.replicate_zero, Bool.not_true, Bool.not_false, and_true, true_and, and_self]
        refine brB_cases ?_ (fun h => by rw [isC_no _ _ _ _ (.inl h)])
        intro ha
        refine (l01_isI d b H' (p b (by simp))).then ?_
        rintro x H' ⟨rfl, rfl⟩
        simp only [↓wp_none, ↓wp_bool, ↓wp_int, ↓wp_str, ↓wp_glob, ↓wp_var, ↓wp_bin, ↓wp_not, ↓wp_and, ↓wp_or, ↓wp_cmp, ↓wp_cmp2, ↓wp_sub, ↓wp_oNone, ↓wp_oSome, ↓wp_tup, ↓wp_list, ↓wp_callE, ↓wp_bf, ↓wp_bm, ↓wp_isinst, ↓wp_nil, ↓wp_cons, ↓wps_nil, ↓wps_cons, ↓wps_pass, ↓wps_expr, ↓wps_assign, ↓wps_ret, ↓wps_ite, ↓wv_add, ↓wv_sub, ↓wv_mul, ↓wv_fdiv, ↓wv_mod, ↓wv_range, ↓wv_len_script, ↓wv_len_tup, ↓wv_int, ↓go_eq, ↓go_ne, ↓go_neB, ↓go_isNotB, ↓go_isB, ↓go_lt, ↓go_gt, ↓go_le, ↓go_ge, ↓go_isNone_none, ↓go_isNone_int, ↓go_isNotNone_none, ↓go_isNotNone_int, ↓wi_int_int, ↓wi_int_bool, ↓wi_int_tup, ↓wi_int_list, ↓wi_bool_int, ↓wi_bool_bool, ↓wi_bool_tup, ↓wi_none_tup, ↓wi_none_int, ↓wi_str_tup, ↓wi_str_int, ↓wi_tup_tup, ↓wi_tup_int, ↓ws_tup0, ↓ws_tup1, ↓ws_tup2, ↓getV_zero, ↓getV_succ, ↓asBool_bool, ↓getO_some, ↓brB_true, ↓brB_false, ↓brB_not, ↓wp_ret, List.map_cons, List.map_nil, List.cons_append, List.nil_append, List.set_cons_zero, List.set_cons_succ, List.replicate_succ, List.replicate_zero, Bool.not_true, Bool.not_false, and_true, true_and, and_self]
        refine brB_cases ?_ (fun h => by rw [isC_no _ _ _ _ (.inr h)])
        intro hb
        cases a <;> cases ha
        cases b <;> cases hb
        simp only [↓wp_none, ↓wp_bool, ↓wp_int, ↓wp_str, ↓wp_glob, ↓wp_var, ↓wp_bin, ↓wp_not, ↓wp_and, ↓wp_or, ↓wp_cmp, ↓wp_cmp2, ↓wp_sub, ↓wp_oNone, ↓wp_oSome, ↓wp_tup, ↓wp_list, ↓wp_callE, ↓wp_bf, ↓wp_bm, ↓wp_isinst, ↓wp_nil, ↓wp_cons, ↓wps_nil, ↓wps_cons, ↓wps_pass, ↓wps_expr, ↓wps_assign, ↓wps_ret, ↓wps_ite, ↓wv_add, ↓wv_sub, ↓wv_mul, ↓wv_fdiv, ↓wv_mod, ↓wv_range, ↓wv_len_script, ↓wv_len_tup, ↓wv_int, ↓go_eq, ↓go_ne, ↓go_neB, ↓go_isNotB, ↓go_isB, ↓go_lt, ↓go_gt, ↓go_le, ↓go_ge, ↓go_isNone_none, ↓go_isNone_int, ↓go_isNotNone_none, ↓go_isNotNone_int, ↓wi_int_int, ↓wi_int_bool, ↓wi_int_tup, ↓wi_int_list, ↓wi_bool_int, ↓wi_bool_bool, ↓wi_bool_tup, ↓wi_none_tup, ↓wi_none_int, ↓wi_str_tup, ↓wi_str_int, ↓wi_tup_tup, ↓wi_tup_int, ↓ws_tup0, ↓ws_tup1, ↓ws_tup2, ↓getV_zero, ↓getV_succ, ↓asBool_bool, ↓getO_some, ↓brB_true, ↓brB_false, ↓brB_not, ↓wp_ret, List.map_cons, List.map_nil, List.cons_append, List.nil_append, List.set_cons_zero, List.set_cons_succ, List.replicate_succ, List.replicate_zero, Bool.not_true, Bool.not_false, and_true, true_and, and_self]
        refine brB_split (fun h1 => brB_split (fun h2 => brB_split (fun h3 => ?_) (fun h3 => ?_)) (fun h2 => ?_)) (fun h1 => ?_) <;> simp [isC, *]
    · simp only [f8_01, ↓wp_none, ↓wp_bool, ↓wp_int, ↓wp_str, ↓wp_glob, ↓wp_var, ↓wp_bin, ↓wp_not, ↓wp_and, ↓wp_or, ↓wp_cmp, ↓wp_cmp2, ↓wp_sub, ↓wp_oNone, ↓wp_oSome, ↓wp_tup, ↓wp_list, ↓wp_callE, ↓wp_bf, ↓wp_bm, ↓wp_isinst, ↓wp_nil, ↓wp_cons, ↓wps_nil, ↓wps_cons, ↓wps_pass, ↓wps_expr, ↓wps_assign, ↓wps_ret, ↓wps_ite, ↓wv_add, ↓wv_sub, ↓wv_mul, ↓wv_fdiv, ↓wv_mod, ↓wv_range, ↓wv_len_script, ↓wv_len_tup, ↓wv_int, ↓go_eq, ↓go_ne, ↓go_neB, ↓go_isNotB, ↓go_isB, ↓go_lt, ↓go_gt, ↓go_le, ↓go_ge, ↓go_isNone_none, ↓go_isNone_int, ↓go_isNotNone_none, ↓go_isNotNone_int, ↓wi_int_int, ↓wi_int_bool, ↓wi_int_tup, ↓wi_int_list, ↓wi_bool_int, ↓wi_bool_bool, ↓wi_bool_tup, ↓wi_none_tup, ↓wi_none_int, ↓wi_str_tup, ↓wi_str_int, ↓wi_tup_tup, ↓wi_tup_int, ↓ws_tup0, ↓ws_tup1, ↓ws_tup2, ↓getV_zero, ↓getV_succ, ↓asBool_bool, ↓getO_some, ↓brB_true, ↓brB_false, ↓brB_not, ↓wp_ret, List.map_cons, List.map_nil, List.cons_append, List.nil_append, List.set_cons_zero, List.set_cons_succ, List.replicate_succ, List.replicate_zero, Bool.not_true, Bool.not_false, and_true, true_and, and_self]
      have : ¬ ((vs.length : Int) = 2) := by omega
      simp only [brB_neg this, ↓wp_none, ↓wp_bool, ↓wp_int, ↓wp_str, ↓wp_glob, ↓wp_var, ↓wp_bin, ↓wp_not, ↓wp_and, ↓wp_or, ↓wp_cmp, ↓wp_cmp2, ↓wp_sub, ↓wp_oNone, ↓wp_oSome, ↓wp_tup, ↓wp_list, ↓wp_callE, ↓wp_bf, ↓wp_bm, ↓wp_isinst, ↓wp_nil, ↓wp_cons, ↓wps_nil, ↓wps_cons, ↓wps_pass, ↓wps_expr, ↓wps_assign, ↓wps_ret, ↓wps_ite, ↓wv_add, ↓wv_sub, ↓wv_mul, ↓wv_fdiv, ↓wv_mod, ↓wv_range, ↓wv_len_script, ↓wv_len_tup, ↓wv_int, ↓go_eq, ↓go_ne, ↓go_neB, ↓go_isNotB, ↓go_isB, ↓go_lt, ↓go_gt, ↓go_le, ↓go_ge, ↓go_isNone_none, ↓go_isNone_int, ↓go_isNotNone_none, ↓go_isNotNone_int, ↓wi_int_int, ↓wi_int_bool, ↓wi_int_tup, ↓wi_int_list, ↓wi_bool_int, ↓wi_bool_bool, ↓wi_bool_tup, ↓wi_none_tup, ↓wi_none_int, ↓wi_str_tup, ↓wi_str_int, ↓wi_tup_tup, ↓wi_tup_int, ↓ws_tup0, ↓ws_tup1, ↓ws_tup2, ↓getV_zero, ↓getV_succ, ↓asBool_bool, ↓getO_some, ↓brB_true, ↓brB_false, ↓brB_not, ↓wp_ret, List.map_cons, List.map_nil, List.cons_append, List.nil_append, List.set_cons_zero, List.set_cons_succ, List.replicate_succ, List.replicate_zero, Bool.not_true, Bool.not_false, and_true, true_and, and_self]
      rw [isC_other _ _ _ h2]
  | _ => exact p.elim
theorem l01_thing (d : Nat) (x R C : Int) (H : Hp) (hR : 0 < R) (hC : 0 < C) : Wp (callF T_01 (d + 1) 7 [.int x, .int R, .int C]) H (fun v H' => PlC H' v ∧ Ext H H') NoE := by
  rw [wp_call (g := f7_01) rfl rfl, f7_01]
  have h1 : ¬ (R + 2 = 0) := by omega
  have h2 : ¬ (C + 2 = 0) := by omega
  refine wps_asg (fun v H' => ∃ row, v = .int row ∧ H' = H) ?_ ?_
  · simp only [↓wp_none, ↓wp_bool, ↓wp_int, ↓wp_str, ↓wp_glob, ↓wp_var, ↓wp_bin, ↓wp_not, ↓wp_and, ↓wp_or, ↓wp_cmp, ↓wp_cmp2, ↓wp_sub, ↓wp_oNone, ↓wp_oSome, ↓wp_tup, ↓wp_list, ↓wp_callE, ↓wp_bf, ↓wp_bm, ↓wp_isinst, ↓wp_nil, ↓wp_cons, ↓wps_nil, ↓wps_cons, ↓wps_pass, ↓wps_expr, ↓wps_assign, ↓wps_ret, ↓wps_ite, ↓wv_add, ↓wv_sub, ↓wv_mul, ↓wv_fdiv, ↓wv_mod, ↓wv_range, ↓wv_len_script, ↓wv_len_tup, ↓wv_int, ↓go_eq, ↓go_ne, ↓go_neB, ↓go_isNotB, ↓go_isB, ↓go_lt, ↓go_gt, ↓go_le, ↓go_ge, ↓go_isNone_none, ↓go_isNone_int, ↓go_isNotNone_none, ↓go_isNotNone_int, ↓wi_int_int, ↓wi_int_bool, ↓wi_int_tup, ↓wi_int_list, ↓wi_bool_int, ↓wi_bool_bool, ↓wi_bool_tup, ↓wi_none_tup, ↓wi_none_int, ↓wi_str_tup, ↓wi_str_int, ↓wi_tup_tup, ↓wi_tup_int, ↓ws_tup0, ↓ws_tup1, ↓ws_tup2, ↓getV_zero, ↓getV_succ, ↓asBool_bool, ↓getO_some, ↓brB_true, ↓brB_false, ↓brB_not, ↓wp_ret, List.map_cons, List.map_nil, List.cons_append, List.nil_append, List.set_cons_zero, List.set_cons_succ, List.replicate_succ, List.replicate_zero, Bool.not_true, Bool.not_false, and_true, true_and, and_self, h1, not_false_eq_true]
    exact ⟨by decide, _, rfl⟩
  rintro _ H1 ⟨row, rfl, e⟩
  rw [e]
  clear e H1
  refine wps_asg (fun v H' => ∃ row, v = .int row ∧ H' = H) ?_ ?_
  · simp only [↓wp_none, ↓wp_bool, ↓wp_int, ↓wp_str, ↓wp_glob, ↓wp_var, ↓wp_bin, ↓wp_not, ↓wp_and, ↓wp_or, ↓wp_cmp, ↓wp_cmp2, ↓wp_sub, ↓wp_oNone, ↓wp_oSome, ↓wp_tup, ↓wp_list, ↓wp_callE, ↓wp_bf, ↓wp_bm, ↓wp_isinst, ↓wp_nil, ↓wp_cons, ↓wps_nil, ↓wps_cons, ↓wps_pass, ↓wps_expr, ↓wps_assign, ↓wps_ret, ↓wps_ite, ↓wv_add, ↓wv_sub, ↓wv_mul, ↓wv_fdiv, ↓wv_mod, ↓wv_range, ↓wv_len_script, ↓wv_len_tup, ↓wv_int, ↓go_eq, ↓go_ne, ↓go_neB, ↓go_isNotB, ↓go_isB, ↓go_lt, ↓go_gt, ↓go_le, ↓go_ge, ↓go_isNone_none, ↓go_isNone_int, ↓go_isNotNone_none, ↓go_isNotNone_int, ↓wi_int_int, ↓wi_int_bool, ↓wi_int_tup, ↓wi_int_list, ↓wi_bool_int, ↓wi_bool_bool, ↓wi_bool_tup, ↓wi_none_tup, ↓wi_none_int, ↓wi_str_tup, ↓wi_str_int, ↓wi_tup_tup, ↓wi_tup_int, ↓ws_tup0, ↓ws_tup1, ↓ws_tup2, ↓getV_zero, ↓getV_succ, ↓asBool_bool, ↓getO_some, ↓brB_true, ↓brB_false, ↓brB_not, ↓wp_ret, List.map_cons, List.map_nil, List.cons_append, List.nil_append, List.set_cons_zero, List.set_cons_succ, List.replicate_succ, List.replicate_zero, Bool.not_true, Bool.not_false, and_true, true_and, and_self, h2, not_false_eq_true]
    exact ⟨by decide, _, rfl⟩
  rintro _ H1 ⟨col, rfl, e⟩
  rw [e]
  clear e H1
  have h5 : ¬ ((12 : Int) = 0) := by decide
  have hr := fmod_rng x (m := 12) (by decide)
  simp only [↓wp_none, ↓wp_bool, ↓wp_int, ↓wp_str, ↓wp_glob, ↓wp_var, ↓wp_bin, ↓wp_not, ↓wp_and, ↓wp_or, ↓wp_cmp, ↓wp_cmp2, ↓wp_sub, ↓wp_oNone, ↓wp_oSome, ↓wp_tup, ↓wp_list, ↓wp_callE, ↓wp_bf, ↓wp_bm, ↓wp_isinst, ↓wp_nil, ↓wp_cons, ↓wps_nil, ↓wps_cons, ↓wps_pass, ↓wps_expr, ↓wps_assign, ↓wps_ret, ↓wps_ite, ↓wv_add, ↓wv_sub, ↓wv_mul, ↓wv_fdiv, ↓wv_mod, ↓wv_range, ↓wv_len_script, ↓wv_len_tup, ↓wv_int, ↓go_eq, ↓go_ne, ↓go_neB, ↓go_isNotB, ↓go_isB, ↓go_lt, ↓go_gt, ↓go_le, ↓go_ge, ↓go_isNone_none, ↓go_isNone_int, ↓go_isNotNone_none, ↓go_isNotNone_int, ↓wi_int_int, ↓wi_int_bool, ↓wi_int_tup, ↓wi_int_list, ↓wi_bool_int, ↓wi_bool_bool, ↓wi_bool_tup, ↓wi_none_tup, ↓wi_none_int, ↓wi_str_tup, ↓wi_str_int, ↓wi_tup_tup, ↓wi_tup_int, ↓ws_tup0, ↓ws_tup1, ↓ws_tup2, ↓getV_zero, ↓getV_succ, ↓asBool_bool, ↓getO_some, ↓brB_true, ↓brB_false, ↓brB_not, ↓wp_ret, List.map_cons, List.map_nil, List.cons_append, List.nil_append, List.set_cons_zero, List.set_cons_succ, List.replicate_succ, List.replicate_zero, Bool.not_true, Bool.not_false, and_true, true_and, and_self, h5, not_false_eq_true]
  generalize x.fmod 12 = y at *
  refine brB_split (fun _ => ⟨?_, Ext.refl H⟩) ?_
  · intro v hv; simp at hv; rcases hv with rfl | rfl <;> trivial
  · intro hx
    rw [getO_of (fits_append (get_new _ _))]
    refine wm_append (get_new _ _) (by show 7 < lid; decide) ?_
    have g : ∀ (o : HObj), ((H ++ [HObj.list [.int row, .int col]]) ++ [o])[H.length]? = some (.list [.int row, .int col]) := fun o => ((Ext.refl _).new _).get (get_new _ _)
    have hE : ∀ o o', Ext H (((H ++ [HObj.list [.int row, .int col]]) ++ [o]).set (H ++ [HObj.list [.int row, .int col]]).length o') := fun o o' => (((Ext.refl H).new _).new _).set (by simp) _
    have h8 : ∀ xs : List Val, xs.length = 8 → ∃ v, xs[(y - 4).toNat]? = some v := fun xs hx => ⟨_, List.getElem?_eq_getElem (by omega)⟩
    obtain ⟨v, hv⟩ := h8 ([.loc H.length, .tup [.int row, .int col, .int 0], .tup [.bool true, .bool false], .tup [.int row], .str "ab", .tup [.str "0", .int col], .tup [.int row, .none]] ++ [.tup [.tup [.int row, .int col], .int 0]]) rfl
    refine ws_list (get_set _ (get_new _ _)) (by omega) hv ⟨?_, hE _ _⟩
    have hm := List.mem_of_getElem? hv
    simp only [List.cons_append, List.nil_append, List.mem_cons, List.not_mem_nil, or_false] at hm
    rcases hm with rfl | rfl | rfl | rfl | rfl | rfl | rfl | rfl
    · exact ⟨_, get_other _ (by simp) (g _)⟩
    · intro v hv; simp at hv; rcases hv with rfl | rfl | rfl <;> trivial
    · intro v hv; simp at hv; rcases hv with rfl | rfl <;> trivial
    · intro v hv; simp at hv; subst hv; trivial
    · trivial
    · intro v hv; simp at hv; rcases hv with rfl | rfl <;> trivial
    · intro v hv; simp at hv; rcases hv with rfl | rfl <;> trivial
    · intro v hv; simp at hv; rcases hv with rfl | rfl <;> trivial
/- one conditional append of `due` -/
theorem wps_may {T : Tab} {Φ : Funs} {Γ : Env'} {H : Hp} {QS : Env' → Hp → Prop} {R : Val → Hp → Prop} {ES : Nat → Env' → Hp → Prop} {c e : ME} {x l : Nat} {xs : List Val} {p : Bool} {v : Val}
    (hx : Γ[x]? = some (some (.loc l))) (hl : H[l]? = some (.list xs)) (hn : xs.length < lid)
    (hc : Wp (evalE T Φ c Γ) H (fun r H' => r = .bool p ∧ H' = H) NoE) (he : Wp (evalE T Φ e Γ) H (fun r H' => r = v ∧ H' = H) NoE)
    (q : QS Γ (H.set l (.list (xs ++ (if p = true then [v] else []))))) :
    WpS (execS T Φ (.ite c (.cons (.expr (.bm (.var x) .append (.cons e .nil))) .nil) .nil) Γ H) QS R ES := by
  rw [wps_ite]
  refine hc.then ?_
  rintro r H' ⟨rfl, rfl⟩
  rw [asBool_bool]
  cases p with
  | false =>
    rw [brB_false, wps_nil]
    simp only [Bool.false_eq_true, if_false, List.append_nil] at q
    rw [set_same hl] at q; exact q
  | true =>
    rw [brB_true, wps_cons, wps_expr]
    refine wp_appendE hx hl (he.then ?_)
    rintro r H' ⟨rfl, rfl⟩
    exact ⟨xs, hl, hn, q⟩
noncomputable def dueL (R C r c : Int) : List (Int × Int) :=
  (if decide (0 < r) = true then [(r - 1, c)] else []) ++ (if decide (0 < c) = true then [(r, c - 1)] else []) ++ (if decide (c < C - 1) = true then [(r, c + 1)] else []) ++ (if decide (r < R - 1) = true then [(r + 1, c)] else [])
theorem map_may (p : Bool) (x : Int × Int) : (if p = true then [x] else []).map pr = (if p = true then [pr x] else []) := by cases p <;> rfl
theorem l01_due (d : Nat) (R C r c : Int) (H : Hp) : Wp (callF T_01 (d + 1) 9 [.int R, .int C, .int r, .int c]) H
    (fun x H' => ∃ l, x = .loc l ∧ H.length ≤ l ∧ Ext H H' ∧ H'[l]? = some (.list ((dueL R C r c).map pr))) NoE := by
  rw [wp_call (g := f9_01) rfl rfl]
  have hE : ∀ o, Ext H ((H ++ [HObj.list []]).set H.length o) := fun o => ((Ext.refl H).new _).set (Nat.le_refl _) _
  have hg : ∀ o, ((H ++ [HObj.list []]).set H.length o)[H.length]? = some o := fun o => get_set _ (get_new _ _)
  have hm : ∀ (p : Bool) (v : Val), (if p = true then [v] else []).length ≤ 1 := by intro p v; cases p <;> simp
  have hlid : lid = 16777216 := rfl
  rw [f9_01, wps_cons, wps_assign, wp_list, wp_nil, wps_cons]
  refine wps_may (l := H.length) (xs := []) (p := decide (0 < r)) (v := pr (r - 1, c)) rfl (get_new _ _) (by decide) (by simp only [↓wp_none, ↓wp_bool, ↓wp_int, ↓wp_str, ↓wp_glob, ↓wp_var, ↓wp_bin, ↓wp_not, ↓wp_and, ↓wp_or, ↓wp_cmp, ↓wp_cmp2, ↓wp_sub, ↓wp_oNone, ↓wp_oSome, ↓wp_tup, ↓wp_list, ↓wp_callE, ↓wp_bf, ↓wp_bm, ↓wp_isinst, ↓wp_nil, ↓wp_cons, ↓wps_nil, ↓wps_cons, ↓wps_pass, ↓wps_expr, ↓wps_assign, ↓wps_ret, ↓wps_ite, ↓wv_add, ↓wv_sub, ↓wv_mul, ↓wv_fdiv, ↓wv_mod, ↓wv_range, ↓wv_len_script, ↓wv_len_tup, ↓wv_int, ↓go_eq, ↓go_ne, ↓go_neB, ↓go_isNotB, ↓go_isB, ↓go_lt, ↓go_gt, ↓go_le, ↓go_ge, ↓go_isNone_none, ↓go_isNone_int, ↓go_isNotNone_none, ↓go_isNotNone_int, ↓wi_int_int, ↓wi_int_bool, ↓wi_int_tup, ↓wi_int_list, ↓wi_bool_int, ↓wi_bool_bool, ↓wi_bool_tup, ↓wi_none_tup, ↓wi_none_int, ↓wi_str_tup, ↓wi_str_int, ↓wi_tup_tup, ↓wi_tup_int, ↓ws_tup0, ↓ws_tup1, ↓ws_tup2, ↓getV_zero, ↓getV_succ, ↓asBool_bool, ↓getO_some, ↓brB_true, ↓brB_false, ↓brB_not, ↓wp_ret, List.map_cons, List.map_nil, List.cons_append, List.nil_append, List.set_cons_zero, List.set_cons_succ, List.replicate_succ, List.replicate_zero, Bool.not_true, Bool.not_false, and_true, true_and, and_self]) (by simp only [↓wp_none, ↓wp_bool, ↓wp_int, ↓wp_str, ↓wp_glob, ↓wp_var, ↓wp_bin, ↓wp_not, ↓wp_and, ↓wp_or, ↓wp_cmp, ↓wp_cmp2, ↓wp_sub, ↓wp_oNone, ↓wp_oSome, ↓wp_tup, ↓wp_list, ↓wp_callE, ↓wp_bf, ↓wp_bm, ↓wp_isinst, ↓wp_nil, ↓wp_cons, ↓wps_nil, ↓wps_cons, ↓wps_pass, ↓wps_expr, ↓wps_assign, ↓wps_ret, ↓wps_ite, ↓wv_add, ↓wv_sub, ↓wv_mul, ↓wv_fdiv, ↓wv_mod, ↓wv_range, ↓wv_len_script, ↓wv_len_tup, ↓wv_int, ↓go_eq, ↓go_ne, ↓go_neB, ↓go_isNotB, ↓go_isB, ↓go_lt, ↓go_gt, ↓go_le, ↓go_ge, ↓go_isNone_none, ↓go_isNone_int, ↓go_isNotNone_none, ↓go_isNotNone_int, ↓wi_int_int, ↓wi_int_bool, ↓wi_int_tup, ↓wi_int_list, ↓wi_bool_int, ↓wi_bool_bool, ↓wi_bool_tup, ↓wi_none_tup, ↓wi_none_int, ↓wi_str_tup, ↓wi_str_int, ↓wi_tup_tup, ↓wi_tup_int, ↓ws_tup0, ↓ws_tup1, ↓ws_tup2, ↓getV_zero, ↓getV_succ, ↓asBool_bool, ↓getO_some, ↓brB_true, ↓brB_false, ↓brB_not, ↓wp_ret, List.map_cons, List.map_nil, List.cons_append, List.nil_append, List.set_cons_zero, List.set_cons_succ, List.replicate_succ, List.replicate_zero, Bool.not_true, Bool.not_false, and_true, true_and, and_self, pr]) ?_
  rw [wps_cons]
  refine wps_may (l := H.length) (p := decide (0 < c)) (v := pr (r, c - 1)) rfl (hg _) ?_ (by simp only [↓wp_none, ↓wp_bool, ↓wp_int, ↓wp_str, ↓wp_glob, ↓wp_var, ↓wp_bin, ↓wp_not, ↓wp_and, ↓wp_or, ↓wp_cmp, ↓wp_cmp2, ↓wp_sub, ↓wp_oNone, ↓wp_oSome, ↓wp_tup, ↓wp_list, ↓wp_callE, ↓wp_bf, ↓wp_bm, ↓wp_isinst, ↓wp_nil, ↓wp_cons, ↓wps_nil, ↓wps_cons, ↓wps_pass, ↓wps_expr, ↓wps_assign, ↓wps_ret, ↓wps_ite, ↓wv_add, ↓wv_sub, ↓wv_mul, ↓wv_fdiv, ↓wv_mod, ↓wv_range, ↓wv_len_script, ↓wv_len_tup, ↓wv_int, ↓go_eq, ↓go_ne, ↓go_neB, ↓go_isNotB, ↓go_isB, ↓go_lt, ↓go_gt, ↓go_le, ↓go_ge, ↓go_isNone_none, ↓go_isNone_int, ↓go_isNotNone_none, ↓go_isNotNone_int, ↓wi_int_int, ↓wi_int_bool, ↓wi_int_tup, ↓wi_int_list, ↓wi_bool_int, ↓wi_bool_bool, ↓wi_bool_tup, ↓wi_none_tup, ↓wi_none_int, ↓wi_str_tup, ↓wi_str_int, ↓wi_tup_tup, ↓wi_tup_int, ↓ws_tup0, ↓ws_tup1, ↓ws_tup2, ↓getV_zero, ↓getV_succ, ↓asBool_bool, ↓getO_some, ↓brB_true, ↓brB_false, ↓brB_not, ↓wp_ret, List.map_cons, List.map_nil, List.cons_append, List.nil_append, List.set_cons_zero, List.set_cons_succ, List.replicate_succ, List.replicate_zero, Bool.not_true, Bool.not_false, and_true, true_and, and_self]) (by simp only [↓wp_none, ↓wp_bool, ↓wp_int, ↓wp_str, ↓wp_glob, ↓wp_var, ↓wp_bin, ↓wp_not, ↓wp_and, ↓wp_or, ↓wp_cmp, ↓wp_cmp2, ↓wp_sub, ↓wp_oNone, ↓wp_oSome, ↓wp_tup, ↓wp_list, ↓wp_callE, ↓wp_bf, ↓wp_bm, ↓wp_isinst, ↓wp_nil, ↓wp_cons, ↓wps_nil, ↓wps_cons, ↓wps_pass, ↓wps_expr, ↓wps_assign, ↓wps_ret, ↓wps_ite, ↓wv_add, ↓wv_sub, ↓wv_mul, ↓wv_fdiv, ↓wv_mod, ↓wv_range, ↓wv_len_script, ↓wv_len_tup, ↓wv_int, ↓go_eq, ↓go_ne, ↓go_neB, ↓go_isNotB, ↓go_isB, ↓go_lt, ↓go_gt, ↓go_le, ↓go_ge, ↓go_isNone_none, ↓go_isNone_int, ↓go_isNotNone_none, ↓go_isNotNone_int, ↓wi_int_int, ↓wi_int_bool, ↓wi_int_tup, ↓wi_int_list, ↓wi_bool_int, ↓wi_bool_bool, ↓wi_bool_tup, ↓wi_none_tup, ↓wi_none_int, ↓wi_str_tup, ↓wi_str_int, ↓wi_tup_tup, ↓wi_tup_int, ↓ws_tup0, ↓ws_tup1, ↓ws_tup2, ↓getV_zero, ↓getV_succ, ↓asBool_bool, ↓getO_some, ↓brB_true, ↓brB_false, ↓brB_not, ↓wp_ret, List.map_cons, List.map_nil, List.cons_append, List.nil_append, List.set_cons_zero, List.set_cons_succ, List.replicate_succ, List.replicate_zero, Bool.not_true, Bool.not_false, and_true, true_and, and_self, pr]) ?_
  · have := hm (decide (0 < r)) (pr (r - 1, c)); simp only [List.nil_append]; omega
  rw [wps_cons, List.set_set]
  refine wps_may (l := H.length) (p := decide (c < C - 1)) (v := pr (r, c + 1)) rfl (hg _) ?_ (by simp only [↓wp_none, ↓wp_bool, ↓wp_int, ↓wp_str, ↓wp_glob, ↓wp_var, ↓wp_bin, ↓wp_not, ↓wp_and, ↓wp_or, ↓wp_cmp, ↓wp_cmp2, ↓wp_sub, ↓wp_oNone, ↓wp_oSome, ↓wp_tup, ↓wp_list, ↓wp_callE, ↓wp_bf, ↓wp_bm, ↓wp_isinst, ↓wp_nil, ↓wp_cons, ↓wps_nil, ↓wps_cons, ↓wps_pass, ↓wps_expr, ↓wps_assign, ↓wps_ret, ↓wps_ite, ↓wv_add, ↓wv_sub, ↓wv_mul, ↓wv_fdiv, ↓wv_mod, ↓wv_range, ↓wv_len_script, ↓wv_len_tup, ↓wv_int, ↓go_eq, ↓go_ne, ↓go_neB, ↓go_isNotB, ↓go_isB, ↓go_lt, ↓go_gt, ↓go_le, ↓go_ge, ↓go_isNone_none, ↓go_isNone_int, ↓go_isNotNone_none, ↓go_isNotNone_int, ↓wi_int_int, ↓wi_int_bool, ↓wi_int_tup, ↓wi_int_list, ↓wi_bool_int, ↓wi_bool_bool, ↓wi_bool_tup, ↓wi_none_tup, ↓wi_none_int, ↓wi_str_tup, ↓wi_str_int, ↓wi_tup_tup, ↓wi_tup_int, ↓ws_tup0, ↓ws_tup1, ↓ws_tup2, ↓getV_zero, ↓getV_succ, ↓asBool_bool, ↓getO_some, ↓brB_true, ↓brB_false, ↓brB_not, ↓wp_ret, List.map_cons, List.map_nil, List.cons_append, List.nil_append, List.set_cons_zero, List.set_cons_succ, List.replicate_succ, List.replicate_zero, Bool.not_true, Bool.not_false, and_true, true_and, and_self]) (by simp only [↓wp_none, ↓wp_bool, ↓wp_int, ↓wp_str, ↓wp_glob, ↓wp_var, ↓wp_bin, ↓wp_not, ↓wp_and, ↓wp_or, ↓wp_cmp, ↓wp_cmp2, ↓wp_sub, ↓wp_oNone, ↓wp_oSome, ↓wp_tup, ↓wp_list, ↓wp_callE, ↓wp_bf, ↓wp_bm, ↓wp_isinst, ↓wp_nil, ↓wp_cons, ↓wps_nil, ↓wps_cons, ↓wps_pass, ↓wps_expr, ↓wps_assign, ↓wps_ret, ↓wps_ite, ↓wv_add, ↓wv_sub, ↓wv_mul, ↓wv_fdiv, ↓wv_mod, ↓wv_range, ↓wv_len_script, ↓wv_len_tup, ↓wv_int, ↓go_eq, ↓go_ne, ↓go_neB, ↓go_isNotB, ↓go_isB, ↓go_lt, ↓go_gt, ↓go_le, ↓go_ge, ↓go_isNone_none, ↓go_isNone_int, ↓go_isNotNone_none, ↓go_isNotNone_int, ↓wi_int_int, ↓wi_int_bool, ↓wi_int_tup, ↓wi_int_list, ↓wi_bool_int, ↓wi_bool_bool, ↓wi_bool_tup, ↓wi_none_tup, ↓wi_none_int, ↓wi_str_tup, ↓wi_str_int, ↓wi_tup_tup, ↓wi_tup_int, ↓ws_tup0, ↓ws_tup1, ↓ws_tup2, ↓getV_zero, ↓getV_succ, ↓asBool_bool, ↓getO_some, ↓brB_true, ↓brB_false, ↓brB_not, ↓wp_ret, List.map_cons, List.map_nil, List.cons_append, List.nil_append, List.set_cons_zero, List.set_cons_succ, List.replicate_succ, List.replicate_zero, Bool.not_true, Bool.not_false, and_true, true_and, and_self, pr]) ?_
  · have := hm (decide (0 < r)) (pr (r - 1, c)); have := hm (decide (0 < c)) (pr (r, c - 1)); simp only [List.nil_append, List.length_append]; omega
  rw [wps_cons, List.set_set]
  refine wps_may (l := H.length) (p := decide (r < R - 1)) (v := pr (r + 1, c)) rfl (hg _) ?_ (by simp only [↓wp_none, ↓wp_bool, ↓wp_int, ↓wp_str, ↓wp_glob, ↓wp_var, ↓wp_bin, ↓wp_not, ↓wp_and, ↓wp_or, ↓wp_cmp, ↓wp_cmp2, ↓wp_sub, ↓wp_oNone, ↓wp_oSome, ↓wp_tup, ↓wp_list, ↓wp_callE, ↓wp_bf, ↓wp_bm, ↓wp_isinst, ↓wp_nil, ↓wp_cons, ↓wps_nil, ↓wps_cons, ↓wps_pass, ↓wps_expr, ↓wps_assign, ↓wps_ret, ↓wps_ite, ↓wv_add, ↓wv_sub, ↓wv_mul, ↓wv_fdiv, ↓wv_mod, ↓wv_range, ↓wv_len_script, ↓wv_len_tup, ↓wv_int, ↓go_eq, ↓go_ne, ↓go_neB, ↓go_isNotB, ↓go_isB, ↓go_lt, ↓go_gt, ↓go_le, ↓go_ge, ↓go_isNone_none, ↓go_isNone_int, ↓go_isNotNone_none, ↓go_isNotNone_int, ↓wi_int_int, ↓wi_int_bool, ↓wi_int_tup, ↓wi_int_list, ↓wi_bool_int, ↓wi_bool_bool, ↓wi_bool_tup, ↓wi_none_tup, ↓wi_none_int, ↓wi_str_tup, ↓wi_str_int, ↓wi_tup_tup, ↓wi_tup_int, ↓ws_tup0, ↓ws_tup1, ↓ws_tup2, ↓getV_zero, ↓getV_succ, ↓asBool_bool, ↓getO_some, ↓brB_true, ↓brB_false, ↓brB_not, ↓wp_ret, List.map_cons, List.map_nil, List.cons_append, List.nil_append, List.set_cons_zero, List.set_cons_succ, List.replicate_succ, List.replicate_zero, Bool.not_true, Bool.not_false, and_true, true_and, and_self]) (by simp only [↓wp_none, ↓wp_bool, ↓wp_int, ↓wp_str, ↓wp_glob, ↓wp_var, ↓wp_bin, ↓wp_not, ↓wp_and, ↓wp_or, ↓wp_cmp, ↓wp_cmp2, ↓wp_sub, ↓wp_oNone, ↓wp_oSome, ↓wp_tup, ↓wp_list, ↓wp_callE, ↓wp_bf, ↓wp_bm, ↓wp_isinst, ↓wp_nil, ↓wp_cons, ↓wps_nil, ↓wps_cons, ↓wps_pass, ↓wps_expr, ↓wps_assign, ↓wps_ret, ↓wps_ite, ↓wv_add, ↓wv_sub, ↓wv_mul, ↓wv_fdiv, ↓wv_mod, ↓wv_range, ↓wv_len_script, ↓wv_len_tup, ↓wv_int, ↓go_eq, ↓go_ne, ↓go_neB, ↓go_isNotB, ↓go_isB, ↓go_lt, ↓go_gt, ↓go_le, ↓go_ge, ↓go_isNone_none, ↓go_isNone_int, ↓go_isNotNone_none, ↓go_isNotNone_int, ↓wi_int_int, ↓wi_int_bool, ↓wi_int_tup, ↓wi_int_list, ↓wi_bool_int, ↓wi_bool_bool, ↓wi_bool_tup, ↓wi_none_tup, ↓wi_none_int, ↓wi_str_tup, ↓wi_str_int, ↓wi_tup_tup, ↓wi_tup_int, ↓ws_tup0, ↓ws_tup1, ↓ws_tup2, ↓getV_zero, ↓getV_succ, ↓asBool_bool, ↓getO_some, ↓brB_true, ↓brB_false, ↓brB_not, ↓wp_ret, List.map_cons, List.map_nil, List.cons_append, List.nil_append, List.set_cons_zero, List.set_cons_succ, List.replicate_succ, List.replicate_zero, Bool.not_true, Bool.not_false, and_true, true_and, and_self, pr]) ?_
  · have := hm (decide (0 < r)) (pr (r - 1, c)); have := hm (decide (0 < c)) (pr (r, c - 1)); have := hm (decide (c < C - 1)) (pr (r, c + 1)); simp only [List.nil_append, List.length_append]; omega
  rw [List.set_set]
  simp only [↓wp_none, ↓wp_bool, ↓wp_int, ↓wp_str, ↓wp_glob, ↓wp_var, ↓wp_bin, ↓wp_not, ↓wp_and, ↓wp_or, ↓wp_cmp, ↓wp_cmp2, ↓wp_sub, ↓wp_oNone, ↓wp_oSome, ↓wp_tup, ↓wp_list, ↓wp_callE, ↓wp_bf, ↓wp_bm, ↓wp_isinst, ↓wp_nil, ↓wp_cons, ↓wps_nil, ↓wps_cons, ↓wps_pass, ↓wps_expr, ↓wps_assign, ↓wps_ret, ↓wps_ite, ↓wv_add, ↓wv_sub, ↓wv_mul, ↓wv_fdiv, ↓wv_mod, ↓wv_range, ↓wv_len_script, ↓wv_len_tup, ↓wv_int, ↓go_eq, ↓go_ne, ↓go_neB, ↓go_isNotB, ↓go_isB, ↓go_lt, ↓go_gt, ↓go_le, ↓go_ge, ↓go_isNone_none, ↓go_isNone_int, ↓go_isNotNone_none, ↓go_isNotNone_int, ↓wi_int_int, ↓wi_int_bool, ↓wi_int_tup, ↓wi_int_list, ↓wi_bool_int, ↓wi_bool_bool, ↓wi_bool_tup, ↓wi_none_tup, ↓wi_none_int, ↓wi_str_tup, ↓wi_str_int, ↓wi_tup_tup, ↓wi_tup_int, ↓ws_tup0, ↓ws_tup1, ↓ws_tup2, ↓getV_zero, ↓getV_succ, ↓asBool_bool, ↓getO_some, ↓brB_true, ↓brB_false, ↓brB_not, ↓wp_ret, List.map_cons, List.map_nil, List.cons_append, List.nil_append, List.set_cons_zero, List.set_cons_succ, List.replicate_succ, List.replicate_zero, Bool.not_true, Bool.not_false, and_true, true_and, and_self]
  refine ⟨_, rfl, Nat.le_refl _, hE _, ?_⟩
  rw [hg]
  simp only [dueL, List.map_append, map_may]
theorem due_beside (R C r c : Int) (hr : 0 ≤ r ∧ r < R) (hc : 0 ≤ c ∧ c < C) : (nearL r c).filter (liesP R C) = dueL R C r c := by
  have e1 : liesP R C (r - 1, c) = decide (0 < r) := by
    rw [Bool.eq_iff_iff]; simp [liesP, pr, lies, inR]; omega
  have e2 : liesP R C (r, c - 1) = decide (0 < c) := by
    rw [Bool.eq_iff_iff]; simp [liesP, pr, lies, inR]; omega
  have e3 : liesP R C (r, c + 1) = decide (c < C - 1) := by
    rw [Bool.eq_iff_iff]; simp [liesP, pr, lies, inR]; omega
  have e4 : liesP R C (r + 1, c) = decide (r < R - 1) := by
    rw [Bool.eq_iff_iff]; simp [liesP, pr, lies, inR]; omega
  simp only [nearL, dueL, List.filter_cons, e1, e2, e3, e4, List.filter_nil]
  generalize decide (0 < r) = a; generalize decide (0 < c) = b; generalize decide (c < C - 1) = e; generalize decide (r < R - 1) = g
  cases a <;> cases b <;> cases e <;> cases g <;> rfl
theorem pick3 (a b : Int) {R : Int} (hR : 0 < R) (x : Int) : ∃ r, (0 ≤ r ∧ r < R) ∧ ([Val.int 0, Val.int (R - 1), Val.int (a.fmod R)])[(x.fmod 3).toNat]? = some (.int r) := by
  have h := fmod_rng x (m := 3) (by decide)
  have h2 := fmod_rng a hR
  generalize x.fmod 3 = y at *
  have hc : y = 0 ∨ y = 1 ∨ y = 2 := by omega
  rcases hc with rfl | rfl | rfl
  · exact ⟨_, by omega, rfl⟩
  · exact ⟨_, by omega, rfl⟩
  · exact ⟨_, h2, rfl⟩
theorem l01_law (d : Nat) (ns : List Int) (H : Hp) : Wp (callF T_01 (d + 5) 10 [.script ns]) H (fun v _ => v = .bool true) NoE := by
  rw [wp_call (g := f10_01) rfl rfl]
  have h30 : ¬ ((30 : Int) = 0) := by decide
  have h3 : ¬ ((3 : Int) = 0) := by decide
  have h3' : ¬ ((3 : Int) = 0 ∨ 1073741824 ≤ (3 : Int).natAbs) := by decide
  have h4 : ¬ ((4 : Int) = 0) := by decide
  have hlid : lid = 16777216 := rfl
  rw [f10_01]
  refine wps_asg (fun v H' => ∃ R : Nat, 0 < R ∧ R ≤ 30 ∧ v = .int R) ?_ ?_
  · simp only [↓wp_none, ↓wp_bool, ↓wp_int, ↓wp_str, ↓wp_glob, ↓wp_var, ↓wp_bin, ↓wp_not, ↓wp_and, ↓wp_or, ↓wp_cmp, ↓wp_cmp2, ↓wp_sub, ↓wp_oNone, ↓wp_oSome, ↓wp_tup, ↓wp_list, ↓wp_callE, ↓wp_bf, ↓wp_bm, ↓wp_isinst, ↓wp_nil, ↓wp_cons, ↓wps_nil, ↓wps_cons, ↓wps_pass, ↓wps_expr, ↓wps_assign, ↓wps_ret, ↓wps_ite, ↓wv_add, ↓wv_sub, ↓wv_mul, ↓wv_fdiv, ↓wv_mod, ↓wv_range, ↓wv_len_script, ↓wv_len_tup, ↓wv_int, ↓go_eq, ↓go_ne, ↓go_neB, ↓go_isNotB, ↓go_isB, ↓go_lt, ↓go_gt, ↓go_le, ↓go_ge, ↓go_isNone_none, ↓go_isNone_int, ↓go_isNotNone_none, ↓go_isNotNone_int, ↓wi_int_int, ↓wi_int_bool, ↓wi_int_tup, ↓wi_int_list, ↓wi_bool_int, ↓wi_bool_bool, ↓wi_bool_tup, ↓wi_none_tup, ↓wi_none_int, ↓wi_str_tup, ↓wi_str_int, ↓wi_tup_tup, ↓wi_tup_int, ↓ws_tup0, ↓ws_tup1, ↓ws_tup2, ↓getV_zero, ↓getV_succ, ↓asBool_bool, ↓getO_some, ↓brB_true, ↓brB_false, ↓brB_not, ↓wp_ret, List.map_cons, List.map_nil, List.cons_append, List.nil_append, List.set_cons_zero, List.set_cons_succ, List.replicate_succ, List.replicate_zero, Bool.not_true, Bool.not_false, and_true, true_and, and_self]
    refine (l01_cell_at (d + 3) ns 0 H).then ?_
    rintro _ _ ⟨rfl, rfl⟩
    simp only [↓wp_none, ↓wp_bool, ↓wp_int, ↓wp_str, ↓wp_glob, ↓wp_var, ↓wp_bin, ↓wp_not, ↓wp_and, ↓wp_or, ↓wp_cmp, ↓wp_cmp2, ↓wp_sub, ↓wp_oNone, ↓wp_oSome, ↓wp_tup, ↓wp_list, ↓wp_callE, ↓wp_bf, ↓wp_bm, ↓wp_isinst, ↓wp_nil, ↓wp_cons, ↓wps_nil, ↓wps_cons, ↓wps_pass, ↓wps_expr, ↓wps_assign, ↓wps_ret, ↓wps_ite, ↓wv_add, ↓wv_sub, ↓wv_mul, ↓wv_fdiv, ↓wv_mod, ↓wv_range, ↓wv_len_script, ↓wv_len_tup, ↓wv_int, ↓go_eq, ↓go_ne, ↓go_neB, ↓go_isNotB, ↓go_isB, ↓go_lt, ↓go_gt, ↓go_le, ↓go_ge, ↓go_isNone_none, ↓go_isNone_int, ↓go_isNotNone_none, ↓go_isNotNone_int, ↓wi_int_int, ↓wi_int_bool, ↓wi_int_tup, ↓wi_int_list, ↓wi_bool_int, ↓wi_bool_bool, ↓wi_bool_tup, ↓wi_none_tup, ↓wi_none_int, ↓wi_str_tup, ↓wi_str_int, ↓wi_tup_tup, ↓wi_tup_int, ↓ws_tup0, ↓ws_tup1, ↓ws_tup2, ↓getV_zero, ↓getV_succ, ↓asBool_bool, ↓getO_some, ↓brB_true, ↓brB_false, ↓brB_not, ↓wp_ret, List.map_cons, List.map_nil, List.cons_append, List.nil_append, List.set_cons_zero, List.set_cons_succ, List.replicate_succ, List.replicate_zero, Bool.not_true, Bool.not_false, and_true, true_and, and_self, h30, not_false_eq_true]
    have := fmod_rng (cellAt ns 0) (m := 30) (by decide)
    exact ⟨(1 + (cellAt ns 0).fmod 30).toNat, by omega, by omega, congrArg Val.int (by omega)⟩
  rintro _ H ⟨R, hR0, hR, rfl⟩
  refine wps_asg (fun v H' => ∃ R : Nat, 0 < R ∧ R ≤ 30 ∧ v = .int R) ?_ ?_
  · simp only [↓wp_none, ↓wp_bool, ↓wp_int, ↓wp_str, ↓wp_glob, ↓wp_var, ↓wp_bin, ↓wp_not, ↓wp_and, ↓wp_or, ↓wp_cmp, ↓wp_cmp2, ↓wp_sub, ↓wp_oNone, ↓wp_oSome, ↓wp_tup, ↓wp_list, ↓wp_callE, ↓wp_bf, ↓wp_bm, ↓wp_isinst, ↓wp_nil, ↓wp_cons, ↓wps_nil, ↓wps_cons, ↓wps_pass, ↓wps_expr, ↓wps_assign, ↓wps_ret, ↓wps_ite, ↓wv_add, ↓wv_sub, ↓wv_mul, ↓wv_fdiv, ↓wv_mod, ↓wv_range, ↓wv_len_script, ↓wv_len_tup, ↓wv_int, ↓go_eq, ↓go_ne, ↓go_neB, ↓go_isNotB, ↓go_isB, ↓go_lt, ↓go_gt, ↓go_le, ↓go_ge, ↓go_isNone_none, ↓go_isNone_int, ↓go_isNotNone_none, ↓go_isNotNone_int, ↓wi_int_int, ↓wi_int_bool, ↓wi_int_tup, ↓wi_int_list, ↓wi_bool_int, ↓wi_bool_bool, ↓wi_bool_tup, ↓wi_none_tup, ↓wi_none_int, ↓wi_str_tup, ↓wi_str_int, ↓wi_tup_tup, ↓wi_tup_int, ↓ws_tup0, ↓ws_tup1, ↓ws_tup2, ↓getV_zero, ↓getV_succ, ↓asBool_bool, ↓getO_some, ↓brB_true, ↓brB_false, ↓brB_not, ↓wp_ret, List.map_cons, List.map_nil, List.cons_append, List.nil_append, List.set_cons_zero, List.set_cons_succ, List.replicate_succ, List.replicate_zero, Bool.not_true, Bool.not_false, and_true, true_and, and_self]
    refine (l01_cell_at (d + 3) ns 1 H).then ?_
    rintro _ _ ⟨rfl, rfl⟩
    simp only [↓wp_none, ↓wp_bool, ↓wp_int, ↓wp_str, ↓wp_glob, ↓wp_var, ↓wp_bin, ↓wp_not, ↓wp_and, ↓wp_or, ↓wp_cmp, ↓wp_cmp2, ↓wp_sub, ↓wp_oNone, ↓wp_oSome, ↓wp_tup, ↓wp_list, ↓wp_callE, ↓wp_bf, ↓wp_bm, ↓wp_isinst, ↓wp_nil, ↓wp_cons, ↓wps_nil, ↓wps_cons, ↓wps_pass, ↓wps_expr, ↓wps_assign, ↓wps_ret, ↓wps_ite, ↓wv_add, ↓wv_sub, ↓wv_mul, ↓wv_fdiv, ↓wv_mod, ↓wv_range, ↓wv_len_script, ↓wv_len_tup, ↓wv_int, ↓go_eq, ↓go_ne, ↓go_neB, ↓go_isNotB, ↓go_isB, ↓go_lt, ↓go_gt, ↓go_le, ↓go_ge, ↓go_isNone_none, ↓go_isNone_int, ↓go_isNotNone_none, ↓go_isNotNone_int, ↓wi_int_int, ↓wi_int_bool, ↓wi_int_tup, ↓wi_int_list, ↓wi_bool_int, ↓wi_bool_bool, ↓wi_bool_tup, ↓wi_none_tup, ↓wi_none_int, ↓wi_str_tup, ↓wi_str_int, ↓wi_tup_tup, ↓wi_tup_int, ↓ws_tup0, ↓ws_tup1, ↓ws_tup2, ↓getV_zero, ↓getV_succ, ↓asBool_bool, ↓getO_some, ↓brB_true, ↓brB_false, ↓brB_not, ↓wp_ret, List.map_cons, List.map_nil, List.cons_append, List.nil_append, List.set_cons_zero, List.set_cons_succ, List.replicate_succ, List.replicate_zero, Bool.not_true, Bool.not_false, and_true, true_and, and_self, h30, not_false_eq_true]
    have := fmod_rng (cellAt ns 1) (m := 30) (by decide)
    exact ⟨(1 + (cellAt ns 1).fmod 30).toNat, by omega, by omega, congrArg Val.int (by omega)⟩
  rintro _ H ⟨C, hC0, hC, rfl⟩
  have hRi : ¬ ((R : Int) = 0) := by omega
  have hCi : ¬ ((C : Int) = 0) := by omega
  refine wps_asg (fun v H' => ∃ r : Int, (0 ≤ r ∧ r < R) ∧ v = .int r) ?_ ?_
  · simp only [↓wp_none, ↓wp_bool, ↓wp_int, ↓wp_str, ↓wp_glob, ↓wp_var, ↓wp_bin, ↓wp_not, ↓wp_and, ↓wp_or, ↓wp_cmp, ↓wp_cmp2, ↓wp_sub, ↓wp_oNone, ↓wp_oSome, ↓wp_tup, ↓wp_list, ↓wp_callE, ↓wp_bf, ↓wp_bm, ↓wp_isinst, ↓wp_nil, ↓wp_cons, ↓wps_nil, ↓wps_cons, ↓wps_pass, ↓wps_expr, ↓wps_assign, ↓wps_ret, ↓wps_ite, ↓wv_add, ↓wv_sub, ↓wv_mul, ↓wv_fdiv, ↓wv_mod, ↓wv_range, ↓wv_len_script, ↓wv_len_tup, ↓wv_int, ↓go_eq, ↓go_ne, ↓go_neB, ↓go_isNotB, ↓go_isB, ↓go_lt, ↓go_gt, ↓go_le, ↓go_ge, ↓go_isNone_none, ↓go_isNone_int, ↓go_isNotNone_none, ↓go_isNotNone_int, ↓wi_int_int, ↓wi_int_bool, ↓wi_int_tup, ↓wi_int_list, ↓wi_bool_int, ↓wi_bool_bool, ↓wi_bool_tup, ↓wi_none_tup, ↓wi_none_int, ↓wi_str_tup, ↓wi_str_int, ↓wi_tup_tup, ↓wi_tup_int, ↓ws_tup0, ↓ws_tup1, ↓ws_tup2, ↓getV_zero, ↓getV_succ, ↓asBool_bool, ↓getO_some, ↓brB_true, ↓brB_false, ↓brB_not, ↓wp_ret, List.map_cons, List.map_nil, List.cons_append, List.nil_append, List.set_cons_zero, List.set_cons_succ, List.replicate_succ, List.replicate_zero, Bool.not_true, Bool.not_false, and_true, true_and, and_self]
    refine (l01_cell_at (d + 3) ns 2 H).then ?_
    rintro _ _ ⟨rfl, rfl⟩
    simp only [↓wp_none, ↓wp_bool, ↓wp_int, ↓wp_str, ↓wp_glob, ↓wp_var, ↓wp_bin, ↓wp_not, ↓wp_and, ↓wp_or, ↓wp_cmp, ↓wp_cmp2, ↓wp_sub, ↓wp_oNone, ↓wp_oSome, ↓wp_tup, ↓wp_list, ↓wp_callE, ↓wp_bf, ↓wp_bm, ↓wp_isinst, ↓wp_nil, ↓wp_cons, ↓wps_nil, ↓wps_cons, ↓wps_pass, ↓wps_expr, ↓wps_assign, ↓wps_ret, ↓wps_ite, ↓wv_add, ↓wv_sub, ↓wv_mul, ↓wv_fdiv, ↓wv_mod, ↓wv_range, ↓wv_len_script, ↓wv_len_tup, ↓wv_int, ↓go_eq, ↓go_ne, ↓go_neB, ↓go_isNotB, ↓go_isB, ↓go_lt, ↓go_gt, ↓go_le, ↓go_ge, ↓go_isNone_none, ↓go_isNone_int, ↓go_isNotNone_none, ↓go_isNotNone_int, ↓wi_int_int, ↓wi_int_bool, ↓wi_int_tup, ↓wi_int_list, ↓wi_bool_int, ↓wi_bool_bool, ↓wi_bool_tup, ↓wi_none_tup, ↓wi_none_int, ↓wi_str_tup, ↓wi_str_int, ↓wi_tup_tup, ↓wi_tup_int, ↓ws_tup0, ↓ws_tup1, ↓ws_tup2, ↓getV_zero, ↓getV_succ, ↓asBool_bool, ↓getO_some, ↓brB_true, ↓brB_false, ↓brB_not, ↓wp_ret, List.map_cons, List.map_nil, List.cons_append, List.nil_append, List.set_cons_zero, List.set_cons_succ, List.replicate_succ, List.replicate_zero, Bool.not_true, Bool.not_false, and_true, true_and, and_self, h3', hRi, not_false_eq_true]
    refine (l01_cell_at (d + 3) ns 2 _).then ?_
    rintro _ _ ⟨rfl, rfl⟩
    simp only [↓wp_none, ↓wp_bool, ↓wp_int, ↓wp_str, ↓wp_glob, ↓wp_var, ↓wp_bin, ↓wp_not, ↓wp_and, ↓wp_or, ↓wp_cmp, ↓wp_cmp2, ↓wp_sub, ↓wp_oNone, ↓wp_oSome, ↓wp_tup, ↓wp_list, ↓wp_callE, ↓wp_bf, ↓wp_bm, ↓wp_isinst, ↓wp_nil, ↓wp_cons, ↓wps_nil, ↓wps_cons, ↓wps_pass, ↓wps_expr, ↓wps_assign, ↓wps_ret, ↓wps_ite, ↓wv_add, ↓wv_sub, ↓wv_mul, ↓wv_fdiv, ↓wv_mod, ↓wv_range, ↓wv_len_script, ↓wv_len_tup, ↓wv_int, ↓go_eq, ↓go_ne, ↓go_neB, ↓go_isNotB, ↓go_isB, ↓go_lt, ↓go_gt, ↓go_le, ↓go_ge, ↓go_isNone_none, ↓go_isNone_int, ↓go_isNotNone_none, ↓go_isNotNone_int, ↓wi_int_int, ↓wi_int_bool, ↓wi_int_tup, ↓wi_int_list, ↓wi_bool_int, ↓wi_bool_bool, ↓wi_bool_tup, ↓wi_none_tup, ↓wi_none_int, ↓wi_str_tup, ↓wi_str_int, ↓wi_tup_tup, ↓wi_tup_int, ↓ws_tup0, ↓ws_tup1, ↓ws_tup2, ↓getV_zero, ↓getV_succ, ↓asBool_bool, ↓getO_some, ↓brB_true, ↓brB_false, ↓brB_not, ↓wp_ret, List.map_cons, List.map_nil, List.cons_append, List.nil_append, List.set_cons_zero, List.set_cons_succ, List.replicate_succ, List.replicate_zero, Bool.not_true, Bool.not_false, and_true, true_and, and_self, h3, not_false_eq_true]
    obtain ⟨r, hr, e⟩ := pick3 ((cellAt ns 2).fdiv 3) 0 (R := (R : Int)) (by omega) (cellAt ns 2)
    exact ws_list (get_new _ _) (fmod_rng _ (by decide)).1 e ⟨r, hr, rfl⟩
  rintro _ H ⟨r, hr, rfl⟩
  refine wps_asg (fun v H' => ∃ r : Int, (0 ≤ r ∧ r < C) ∧ v = .int r) ?_ ?_
  · simp only [↓wp_none, ↓wp_bool, ↓wp_int, ↓wp_str, ↓wp_glob, ↓wp_var, ↓wp_bin, ↓wp_not, ↓wp_and, ↓wp_or, ↓wp_cmp, ↓wp_cmp2, ↓wp_sub, ↓wp_oNone, ↓wp_oSome, ↓wp_tup, ↓wp_list, ↓wp_callE, ↓wp_bf, ↓wp_bm, ↓wp_isinst, ↓wp_nil, ↓wp_cons, ↓wps_nil, ↓wps_cons, ↓wps_pass, ↓wps_expr, ↓wps_assign, ↓wps_ret, ↓wps_ite, ↓wv_add, ↓wv_sub, ↓wv_mul, ↓wv_fdiv, ↓wv_mod, ↓wv_range, ↓wv_len_script, ↓wv_len_tup, ↓wv_int, ↓go_eq, ↓go_ne, ↓go_neB, ↓go_isNotB, ↓go_isB, ↓go_lt, ↓go_gt, ↓go_le, ↓go_ge, ↓go_isNone_none, ↓go_isNone_int, ↓go_isNotNone_none, ↓go_isNotNone_int, ↓wi_int_int, ↓wi_int_bool, ↓wi_int_tup, ↓wi_int_list, ↓wi_bool_int, ↓wi_bool_bool, ↓wi_bool_tup, ↓wi_none_tup, ↓wi_none_int, ↓wi_str_tup, ↓wi_str_int, ↓wi_tup_tup, ↓wi_tup_int, ↓ws_tup0, ↓ws_tup1, ↓ws_tup2, ↓getV_zero, ↓getV_succ, ↓asBool_bool, ↓getO_some, ↓brB_true, ↓brB_false, ↓brB_not, ↓wp_ret, List.map_cons, List.map_nil, List.cons_append, List.nil_append, List.set_cons_zero, List.set_cons_succ, List.replicate_succ, List.replicate_zero, Bool.not_true, Bool.not_false, and_true, true_and, and_self]
    refine (l01_cell_at (d + 3) ns 3 H).then ?_
    rintro _ _ ⟨rfl, rfl⟩
    simp only [↓wp_none, ↓wp_bool, ↓wp_int, ↓wp_str, ↓wp_glob, ↓wp_var, ↓wp_bin, ↓wp_not, ↓wp_and, ↓wp_or, ↓wp_cmp, ↓wp_cmp2, ↓wp_sub, ↓wp_oNone, ↓wp_oSome, ↓wp_tup, ↓wp_list, ↓wp_callE, ↓wp_bf, ↓wp_bm, ↓wp_isinst, ↓wp_nil, ↓wp_cons, ↓wps_nil, ↓wps_cons, ↓wps_pass, ↓wps_expr, ↓wps_assign, ↓wps_ret, ↓wps_ite, ↓wv_add, ↓wv_sub, ↓wv_mul, ↓wv_fdiv, ↓wv_mod, ↓wv_range, ↓wv_len_script, ↓wv_len_tup, ↓wv_int, ↓go_eq, ↓go_ne, ↓go_neB, ↓go_isNotB, ↓go_isB, ↓go_lt, ↓go_gt, ↓go_le, ↓go_ge, ↓go_isNone_none, ↓go_isNone_int, ↓go_isNotNone_none, ↓go_isNotNone_int, ↓wi_int_int, ↓wi_int_bool, ↓wi_int_tup, ↓wi_int_list, ↓wi_bool_int, ↓wi_bool_bool, ↓wi_bool_tup, ↓wi_none_tup, ↓wi_none_int, ↓wi_str_tup, ↓wi_str_int, ↓wi_tup_tup, ↓wi_tup_int, ↓ws_tup0, ↓ws_tup1, ↓ws_tup2, ↓getV_zero, ↓getV_succ, ↓asBool_bool, ↓getO_some, ↓brB_true, ↓brB_false, ↓brB_not, ↓wp_ret, List.map_cons, List.map_nil, List.cons_append, List.nil_append, List.set_cons_zero, List.set_cons_succ, List.replicate_succ, List.replicate_zero, Bool.not_true, Bool.not_false, and_true, true_and, and_self, h3', hCi, not_false_eq_true]
    refine (l01_cell_at (d + 3) ns 3 _).then ?_
    rintro _ _ ⟨rfl, rfl⟩
    simp only [↓wp_none, ↓wp_bool, ↓wp_int, ↓wp_str, ↓wp_glob, ↓wp_var, ↓wp_bin, ↓wp_not, ↓wp_and, ↓wp_or, ↓wp_cmp, ↓wp_cmp2, ↓wp_sub, ↓wp_oNone, ↓wp_oSome, ↓wp_tup, ↓wp_list, ↓wp_callE, ↓wp_bf, ↓wp_bm, ↓wp_isinst, ↓wp_nil, ↓wp_cons, ↓wps_nil, ↓wps_cons, ↓wps_pass, ↓wps_expr, ↓wps_assign, ↓wps_ret, ↓wps_ite, ↓wv_add, ↓wv_sub, ↓wv_mul, ↓wv_fdiv, ↓wv_mod, ↓wv_range, ↓wv_len_script, ↓wv_len_tup, ↓wv_int, ↓go_eq, ↓go_ne, ↓go_neB, ↓go_isNotB, ↓go_isB, ↓go_lt, ↓go_gt, ↓go_le, ↓go_ge, ↓go_isNone_none, ↓go_isNone_int, ↓go_isNotNone_none, ↓go_isNotNone_int, ↓wi_int_int, ↓wi_int_bool, ↓wi_int_tup, ↓wi_int_list, ↓wi_bool_int, ↓wi_bool_bool, ↓wi_bool_tup, ↓wi_none_tup, ↓wi_none_int, ↓wi_str_tup, ↓wi_str_int, ↓wi_tup_tup, ↓wi_tup_int, ↓ws_tup0, ↓ws_tup1, ↓ws_tup2, ↓getV_zero, ↓getV_succ, ↓asBool_bool, ↓getO_some, ↓brB_true, ↓brB_false, ↓brB_not, ↓wp_ret, List.map_cons, List.map_nil, List.cons_append, List.nil_append, List.set_cons_zero, List.set_cons_succ, List.replicate_succ, List.replicate_zero, Bool.not_true, Bool.not_false, and_true, true_and, and_self, h3, not_false_eq_true]
    obtain ⟨r, hr, e⟩ := pick3 ((cellAt ns 3).fdiv 3) 0 (R := (C : Int)) (by omega) (cellAt ns 3)
    exact ws_list (get_new _ _) (fmod_rng _ (by decide)).1 e ⟨r, hr, rfl⟩
  rintro _ H ⟨c, hc, rfl⟩
  refine wps_seq (fun Γ H => ∃ a b, Γ = [some (.script ns), some (.int R), some (.int C), some (.int r), some (.int c), a, b, none, none, none, none, none]) ?_ ?_
  · refine wps_eachR (n := 2) (fun k Γ H => ∃ a b, Γ = [some (.script ns), some (.int R), some (.int C), some (.int r), some (.int c), a, b, none, none, none, none, none]) ?_ (by decide) ⟨_, _, rfl⟩ ?_ (fun Γ H h => h)
    · simp only [↓wp_none, ↓wp_bool, ↓wp_int, ↓wp_str, ↓wp_glob, ↓wp_var, ↓wp_bin, ↓wp_not, ↓wp_and, ↓wp_or, ↓wp_cmp, ↓wp_cmp2, ↓wp_sub, ↓wp_oNone, ↓wp_oSome, ↓wp_tup, ↓wp_list, ↓wp_callE, ↓wp_bf, ↓wp_bm, ↓wp_isinst, ↓wp_nil, ↓wp_cons, ↓wps_nil, ↓wps_cons, ↓wps_pass, ↓wps_expr, ↓wps_assign, ↓wps_ret, ↓wps_ite, ↓wv_add, ↓wv_sub, ↓wv_mul, ↓wv_fdiv, ↓wv_mod, ↓wv_range, ↓wv_len_script, ↓wv_len_tup, ↓wv_int, ↓go_eq, ↓go_ne, ↓go_neB, ↓go_isNotB, ↓go_isB, ↓go_lt, ↓go_gt, ↓go_le, ↓go_ge, ↓go_isNone_none, ↓go_isNone_int, ↓go_isNotNone_none, ↓go_isNotNone_int, ↓wi_int_int, ↓wi_int_bool, ↓wi_int_tup, ↓wi_int_list, ↓wi_bool_int, ↓wi_bool_bool, ↓wi_bool_tup, ↓wi_none_tup, ↓wi_none_int, ↓wi_str_tup, ↓wi_str_int, ↓wi_tup_tup, ↓wi_tup_int, ↓ws_tup0, ↓ws_tup1, ↓ws_tup2, ↓getV_zero, ↓getV_succ, ↓asBool_bool, ↓getO_some, ↓brB_true, ↓brB_false, ↓brB_not, ↓wp_ret, List.map_cons, List.map_nil, List.cons_append, List.nil_append, List.set_cons_zero, List.set_cons_succ, List.replicate_succ, List.replicate_zero, Bool.not_true, Bool.not_false, and_true, true_and, and_self]
    · rintro k Γ H _ ⟨a, b, rfl⟩
      refine wps_asg (fun v H' => ∃ l, v = .loc l ∧ H'[l]? = some (.list ((dueL R C r c).map pr))) ?_ ?_
      · simp only [↓wp_none, ↓wp_bool, ↓wp_int, ↓wp_str, ↓wp_glob, ↓wp_var, ↓wp_bin, ↓wp_not, ↓wp_and, ↓wp_or, ↓wp_cmp, ↓wp_cmp2, ↓wp_sub, ↓wp_oNone, ↓wp_oSome, ↓wp_tup, ↓wp_list, ↓wp_callE, ↓wp_bf, ↓wp_bm, ↓wp_isinst, ↓wp_nil, ↓wp_cons, ↓wps_nil, ↓wps_cons, ↓wps_pass, ↓wps_expr, ↓wps_assign, ↓wps_ret, ↓wps_ite, ↓wv_add, ↓wv_sub, ↓wv_mul, ↓wv_fdiv, ↓wv_mod, ↓wv_range, ↓wv_len_script, ↓wv_len_tup, ↓wv_int, ↓go_eq, ↓go_ne, ↓go_neB, ↓go_isNotB, ↓go_isB, ↓go_lt, ↓go_gt, ↓go_le, ↓go_ge, ↓go_isNone_none, ↓go_isNone_int, ↓go_isNotNone_none, ↓go_isNotNone_int, ↓wi_int_int, ↓wi_int_bool, ↓wi_int_tup, ↓wi_int_list, ↓wi_bool_int, ↓wi_bool_bool, ↓wi_bool_tup, ↓wi_none_tup, ↓wi_none_int, ↓wi_str_tup, ↓wi_str_int, ↓wi_tup_tup, ↓wi_tup_int, ↓ws_tup0, ↓ws_tup1, ↓ws_tup2, ↓getV_zero, ↓getV_succ, ↓asBool_bool, ↓getO_some, ↓brB_true, ↓brB_false, ↓brB_not, ↓wp_ret, List.map_cons, List.map_nil, List.cons_append, List.nil_append, List.set_cons_zero, List.set_cons_succ, List.replicate_succ, List.replicate_zero, Bool.not_true, Bool.not_false, and_true, true_and, and_self]
        refine (l01_beside (d + 1) R C r c H).then ?_
        rintro _ H' ⟨l, rfl, hl, hx, hg⟩
        rw [due_beside _ _ _ _ hr hc] at hg
        exact ⟨l, rfl, hg⟩
      rintro _ H ⟨l, rfl, hg⟩
      refine wps_no (fun H' => H'[l]? = some (.list ((dueL R C r c).map pr))) ?_ ?_
      · simp only [↓wp_none, ↓wp_bool, ↓wp_int, ↓wp_str, ↓wp_glob, ↓wp_var, ↓wp_bin, ↓wp_not, ↓wp_and, ↓wp_or, ↓wp_cmp, ↓wp_cmp2, ↓wp_sub, ↓wp_oNone, ↓wp_oSome, ↓wp_tup, ↓wp_list, ↓wp_callE, ↓wp_bf, ↓wp_bm, ↓wp_isinst, ↓wp_nil, ↓wp_cons, ↓wps_nil, ↓wps_cons, ↓wps_pass, ↓wps_expr, ↓wps_assign, ↓wps_ret, ↓wps_ite, ↓wv_add, ↓wv_sub, ↓wv_mul, ↓wv_fdiv, ↓wv_mod, ↓wv_range, ↓wv_len_script, ↓wv_len_tup, ↓wv_int, ↓go_eq, ↓go_ne, ↓go_neB, ↓go_isNotB, ↓go_isB, ↓go_lt, ↓go_gt, ↓go_le, ↓go_ge, ↓go_isNone_none, ↓go_isNone_int, ↓go_isNotNone_none, ↓go_isNotNone_int, ↓wi_int_int, ↓wi_int_bool, ↓wi_int_tup, ↓wi_int_list, ↓wi_bool_int, ↓wi_bool_bool, ↓wi_bool_tup, ↓wi_none_tup, ↓wi_none_int, ↓wi_str_tup, ↓wi_str_int, ↓wi_tup_tup, ↓wi_tup_int, ↓ws_tup0, ↓ws_tup1, ↓ws_tup2, ↓getV_zero, ↓getV_succ, ↓asBool_bool, ↓getO_some, ↓brB_true, ↓brB_false, ↓brB_not, ↓wp_ret, List.map_cons, List.map_nil, List.cons_append, List.nil_append, List.set_cons_zero, List.set_cons_succ, List.replicate_succ, List.replicate_zero, Bool.not_true, Bool.not_false, and_true, true_and, and_self]
        refine (l01_due (d + 3) R C r c H).then ?_
        rintro _ H' ⟨m, rfl, hl, hx, hg'⟩
        refine (l01_same (d + 2) l m _ H' (hx.get hg) hg').then ?_
        rintro _ H2 ⟨rfl, hx2⟩
        simp only [↓wp_none, ↓wp_bool, ↓wp_int, ↓wp_str, ↓wp_glob, ↓wp_var, ↓wp_bin, ↓wp_not, ↓wp_and, ↓wp_or, ↓wp_cmp, ↓wp_cmp2, ↓wp_sub, ↓wp_oNone, ↓wp_oSome, ↓wp_tup, ↓wp_list, ↓wp_callE, ↓wp_bf, ↓wp_bm, ↓wp_isinst, ↓wp_nil, ↓wp_cons, ↓wps_nil, ↓wps_cons, ↓wps_pass, ↓wps_expr, ↓wps_assign, ↓wps_ret, ↓wps_ite, ↓wv_add, ↓wv_sub, ↓wv_mul, ↓wv_fdiv, ↓wv_mod, ↓wv_range, ↓wv_len_script, ↓wv_len_tup, ↓wv_int, ↓go_eq, ↓go_ne, ↓go_neB, ↓go_isNotB, ↓go_isB, ↓go_lt, ↓go_gt, ↓go_le, ↓go_ge, ↓go_isNone_none, ↓go_isNone_int, ↓go_isNotNone_none, ↓go_isNotNone_int, ↓wi_int_int, ↓wi_int_bool, ↓wi_int_tup, ↓wi_int_list, ↓wi_bool_int, ↓wi_bool_bool, ↓wi_bool_tup, ↓wi_none_tup, ↓wi_none_int, ↓wi_str_tup, ↓wi_str_int, ↓wi_tup_tup, ↓wi_tup_int, ↓ws_tup0, ↓ws_tup1, ↓ws_tup2, ↓getV_zero, ↓getV_succ, ↓asBool_bool, ↓getO_some, ↓brB_true, ↓brB_false, ↓brB_not, ↓wp_ret, List.map_cons, List.map_nil, List.cons_append, List.nil_append, List.set_cons_zero, List.set_cons_succ, List.replicate_succ, List.replicate_zero, Bool.not_true, Bool.not_false, and_true, true_and, and_self]
        exact hx2.get (hx.get hg)
      intro H hg
      refine wps_ex (fun _ => True) ?_ ?_
      · refine wp_appendE rfl hg ?_
        simp only [↓wp_none, ↓wp_bool, ↓wp_int, ↓wp_str, ↓wp_glob, ↓wp_var, ↓wp_bin, ↓wp_not, ↓wp_and, ↓wp_or, ↓wp_cmp, ↓wp_cmp2, ↓wp_sub, ↓wp_oNone, ↓wp_oSome, ↓wp_tup, ↓wp_list, ↓wp_callE, ↓wp_bf, ↓wp_bm, ↓wp_isinst, ↓wp_nil, ↓wp_cons, ↓wps_nil, ↓wps_cons, ↓wps_pass, ↓wps_expr, ↓wps_assign, ↓wps_ret, ↓wps_ite, ↓wv_add, ↓wv_sub, ↓wv_mul, ↓wv_fdiv, ↓wv_mod, ↓wv_range, ↓wv_len_script, ↓wv_len_tup, ↓wv_int, ↓go_eq, ↓go_ne, ↓go_neB, ↓go_isNotB, ↓go_isB, ↓go_lt, ↓go_gt, ↓go_le, ↓go_ge, ↓go_isNone_none, ↓go_isNone_int, ↓go_isNotNone_none, ↓go_isNotNone_int, ↓wi_int_int, ↓wi_int_bool, ↓wi_int_tup, ↓wi_int_list, ↓wi_bool_int, ↓wi_bool_bool, ↓wi_bool_tup, ↓wi_none_tup, ↓wi_none_int, ↓wi_str_tup, ↓wi_str_int, ↓wi_tup_tup, ↓wi_tup_int, ↓ws_tup0, ↓ws_tup1, ↓ws_tup2, ↓getV_zero, ↓getV_succ, ↓asBool_bool, ↓getO_some, ↓brB_true, ↓brB_false, ↓brB_not, ↓wp_ret, List.map_cons, List.map_nil, List.cons_append, List.nil_append, List.set_cons_zero, List.set_cons_succ, List.replicate_succ, List.replicate_zero, Bool.not_true, Bool.not_false, and_true, true_and, and_self]
        refine ⟨_, hg, ?_⟩
        rw [List.length_map]
        have : (dueL R C r c).length ≤ 4 := by rw [← due_beside _ _ _ _ hr hc]; exact List.length_filter_le _ _
        omega
      intro H _
      exact ⟨_, _, rfl⟩
  rintro Γ H ⟨a, b, rfl⟩
  refine wps_asg (fun v H' => PlC H' v) ?_ ?_
  · simp only [↓wp_none, ↓wp_bool, ↓wp_int, ↓wp_str, ↓wp_glob, ↓wp_var, ↓wp_bin, ↓wp_not, ↓wp_and, ↓wp_or, ↓wp_cmp, ↓wp_cmp2, ↓wp_sub, ↓wp_oNone, ↓wp_oSome, ↓wp_tup, ↓wp_list, ↓wp_callE, ↓wp_bf, ↓wp_bm, ↓wp_isinst, ↓wp_nil, ↓wp_cons, ↓wps_nil, ↓wps_cons, ↓wps_pass, ↓wps_expr, ↓wps_assign, ↓wps_ret, ↓wps_ite, ↓wv_add, ↓wv_sub, ↓wv_mul, ↓wv_fdiv, ↓wv_mod, ↓wv_range, ↓wv_len_script, ↓wv_len_tup, ↓wv_int, ↓go_eq, ↓go_ne, ↓go_neB, ↓go_isNotB, ↓go_isB, ↓go_lt, ↓go_gt, ↓go_le, ↓go_ge, ↓go_isNone_none, ↓go_isNone_int, ↓go_isNotNone_none, ↓go_isNotNone_int, ↓wi_int_int, ↓wi_int_bool, ↓wi_int_tup, ↓wi_int_list, ↓wi_bool_int, ↓wi_bool_bool, ↓wi_bool_tup, ↓wi_none_tup, ↓wi_none_int, ↓wi_str_tup, ↓wi_str_int, ↓wi_tup_tup, ↓wi_tup_int, ↓ws_tup0, ↓ws_tup1, ↓ws_tup2, ↓getV_zero, ↓getV_succ, ↓asBool_bool, ↓getO_some, ↓brB_true, ↓brB_false, ↓brB_not, ↓wp_ret, List.map_cons, List.map_nil, List.cons_append, List.nil_append, List.set_cons_zero, List.set_cons_succ, List.replicate_succ, List.replicate_zero, Bool.not_true, Bool.not_false, and_true, true_and, and_self]
    refine (l01_cell_at (d + 3) ns 4 H).then ?_
    rintro _ _ ⟨rfl, rfl⟩
    refine (l01_thing (d + 3) _ R C _ (by omega) (by omega)).then ?_
    exact fun _ _ h => h.1
  rintro v H hv
  refine wps_asg (fun x H' => x = .bool (lies R C v) ∧ PlC H' v) ?_ ?_
  · simp only [↓wp_none, ↓wp_bool, ↓wp_int, ↓wp_str, ↓wp_glob, ↓wp_var, ↓wp_bin, ↓wp_not, ↓wp_and, ↓wp_or, ↓wp_cmp, ↓wp_cmp2, ↓wp_sub, ↓wp_oNone, ↓wp_oSome, ↓wp_tup, ↓wp_list, ↓wp_callE, ↓wp_bf, ↓wp_bm, ↓wp_isinst, ↓wp_nil, ↓wp_cons, ↓wps_nil, ↓wps_cons, ↓wps_pass, ↓wps_expr, ↓wps_assign, ↓wps_ret, ↓wps_ite, ↓wv_add, ↓wv_sub, ↓wv_mul, ↓wv_fdiv, ↓wv_mod, ↓wv_range, ↓wv_len_script, ↓wv_len_tup, ↓wv_int, ↓go_eq, ↓go_ne, ↓go_neB, ↓go_isNotB, ↓go_isB, ↓go_lt, ↓go_gt, ↓go_le, ↓go_ge, ↓go_isNone_none, ↓go_isNone_int, ↓go_isNotNone_none, ↓go_isNotNone_int, ↓wi_int_int, ↓wi_int_bool, ↓wi_int_tup, ↓wi_int_list, ↓wi_bool_int, ↓wi_bool_bool, ↓wi_bool_tup, ↓wi_none_tup, ↓wi_none_int, ↓wi_str_tup, ↓wi_str_int, ↓wi_tup_tup, ↓wi_tup_int, ↓ws_tup0, ↓ws_tup1, ↓ws_tup2, ↓getV_zero, ↓getV_succ, ↓asBool_bool, ↓getO_some, ↓brB_true, ↓brB_false, ↓brB_not, ↓wp_ret, List.map_cons, List.map_nil, List.cons_append, List.nil_append, List.set_cons_zero, List.set_cons_succ, List.replicate_succ, List.replicate_zero, Bool.not_true, Bool.not_false, and_true, true_and, and_self]
    refine (l01_lies_in (d + 2) R C v H hv).then ?_
    rintro _ _ ⟨rfl, rfl⟩
    exact ⟨rfl, hv⟩
  rintro _ H ⟨rfl, hv⟩
  refine wps_no (fun _ => True) ?_ ?_
  · simp only [↓wp_none, ↓wp_bool, ↓wp_int, ↓wp_str, ↓wp_glob, ↓wp_var, ↓wp_bin, ↓wp_not, ↓wp_and, ↓wp_or, ↓wp_cmp, ↓wp_cmp2, ↓wp_sub, ↓wp_oNone, ↓wp_oSome, ↓wp_tup, ↓wp_list, ↓wp_callE, ↓wp_bf, ↓wp_bm, ↓wp_isinst, ↓wp_nil, ↓wp_cons, ↓wps_nil, ↓wps_cons, ↓wps_pass, ↓wps_expr, ↓wps_assign, ↓wps_ret, ↓wps_ite, ↓wv_add, ↓wv_sub, ↓wv_mul, ↓wv_fdiv, ↓wv_mod, ↓wv_range, ↓wv_len_script, ↓wv_len_tup, ↓wv_int, ↓go_eq, ↓go_ne, ↓go_neB, ↓go_isNotB, ↓go_isB, ↓go_lt, ↓go_gt, ↓go_le, ↓go_ge, ↓go_isNone_none, ↓go_isNone_int, ↓go_isNotNone_none, ↓go_isNotNone_int, ↓wi_int_int, ↓wi_int_bool, ↓wi_int_tup, ↓wi_int_list, ↓wi_bool_int, ↓wi_bool_bool, ↓wi_bool_tup, ↓wi_none_tup, ↓wi_none_int, ↓wi_str_tup, ↓wi_str_int, ↓wi_tup_tup, ↓wi_tup_int, ↓ws_tup0, ↓ws_tup1, ↓ws_tup2, ↓getV_zero, ↓getV_succ, ↓asBool_bool, ↓getO_some, ↓brB_true, ↓brB_false, ↓brB_not, ↓wp_ret, List.map_cons, List.map_nil, List.cons_append, List.nil_append, List.set_cons_zero, List.set_cons_succ, List.replicate_succ, List.replicate_zero, Bool.not_true, Bool.not_false, and_true, true_and, and_self]
    refine (l01_is_cell (d + 2) R C v H hv).then ?_
    rintro _ _ ⟨rfl, rfl⟩
    simp only [↓wp_none, ↓wp_bool, ↓wp_int, ↓wp_str, ↓wp_glob, ↓wp_var, ↓wp_bin, ↓wp_not, ↓wp_and, ↓wp_or, ↓wp_cmp, ↓wp_cmp2, ↓wp_sub, ↓wp_oNone, ↓wp_oSome, ↓wp_tup, ↓wp_list, ↓wp_callE, ↓wp_bf, ↓wp_bm, ↓wp_isinst, ↓wp_nil, ↓wp_cons, ↓wps_nil, ↓wps_cons, ↓wps_pass, ↓wps_expr, ↓wps_assign, ↓wps_ret, ↓wps_ite, ↓wv_add, ↓wv_sub, ↓wv_mul, ↓wv_fdiv, ↓wv_mod, ↓wv_range, ↓wv_len_script, ↓wv_len_tup, ↓wv_int, ↓go_eq, ↓go_ne, ↓go_neB, ↓go_isNotB, ↓go_isB, ↓go_lt, ↓go_gt, ↓go_le, ↓go_ge, ↓go_isNone_none, ↓go_isNone_int, ↓go_isNotNone_none, ↓go_isNotNone_int, ↓wi_int_int, ↓wi_int_bool, ↓wi_int_tup, ↓wi_int_list, ↓wi_bool_int, ↓wi_bool_bool, ↓wi_bool_tup, ↓wi_none_tup, ↓wi_none_int, ↓wi_str_tup, ↓wi_str_int, ↓wi_tup_tup, ↓wi_tup_int, ↓ws_tup0, ↓ws_tup1, ↓ws_tup2, ↓getV_zero, ↓getV_succ, ↓asBool_bool, ↓getO_some, ↓brB_true, ↓brB_false, ↓brB_not, ↓wp_ret, List.map_cons, List.map_nil, List.cons_append, List.nil_append, List.set_cons_zero, List.set_cons_succ, List.replicate_succ, List.replicate_zero, Bool.not_true, Bool.not_false, and_true, true_and, and_self, isC_lies, decide_true]
  intro H _
  refine wps_no (fun _ => True) ?_ ?_
  · simp only [↓wp_none, ↓wp_bool, ↓wp_int, ↓wp_str, ↓wp_glob, ↓wp_var, ↓wp_bin, ↓wp_not, ↓wp_and, ↓wp_or, ↓wp_cmp, ↓wp_cmp2, ↓wp_sub, ↓wp_oNone, ↓wp_oSome, ↓wp_tup, ↓wp_list, ↓wp_callE, ↓wp_bf, ↓wp_bm, ↓wp_isinst, ↓wp_nil, ↓wp_cons, ↓wps_nil, ↓wps_cons, ↓wps_pass, ↓wps_expr, ↓wps_assign, ↓wps_ret, ↓wps_ite, ↓wv_add, ↓wv_sub, ↓wv_mul, ↓wv_fdiv, ↓wv_mod, ↓wv_range, ↓wv_len_script, ↓wv_len_tup, ↓wv_int, ↓go_eq, ↓go_ne, ↓go_neB, ↓go_isNotB, ↓go_isB, ↓go_lt, ↓go_gt, ↓go_le, ↓go_ge, ↓go_isNone_none, ↓go_isNone_int, ↓go_isNotNone_none, ↓go_isNotNone_int, ↓wi_int_int, ↓wi_int_bool, ↓wi_int_tup, ↓wi_int_list, ↓wi_bool_int, ↓wi_bool_bool, ↓wi_bool_tup, ↓wi_none_tup, ↓wi_none_int, ↓wi_str_tup, ↓wi_str_int, ↓wi_tup_tup, ↓wi_tup_int, ↓ws_tup0, ↓ws_tup1, ↓ws_tup2, ↓getV_zero, ↓getV_succ, ↓asBool_bool, ↓getO_some, ↓brB_true, ↓brB_false, ↓brB_not, ↓wp_ret, List.map_cons, List.map_nil, List.cons_append, List.nil_append, List.set_cons_zero, List.set_cons_succ, List.replicate_succ, List.replicate_zero, Bool.not_true, Bool.not_false, and_true, true_and, and_self]
    rw [getO_of (show T_01.globs[0]? = some (.int 30) from rfl)]
    simp only [↓wp_none, ↓wp_bool, ↓wp_int, ↓wp_str, ↓wp_glob, ↓wp_var, ↓wp_bin, ↓wp_not, ↓wp_and, ↓wp_or, ↓wp_cmp, ↓wp_cmp2, ↓wp_sub, ↓wp_oNone, ↓wp_oSome, ↓wp_tup, ↓wp_list, ↓wp_callE, ↓wp_bf, ↓wp_bm, ↓wp_isinst, ↓wp_nil, ↓wp_cons, ↓wps_nil, ↓wps_cons, ↓wps_pass, ↓wps_expr, ↓wps_assign, ↓wps_ret, ↓wps_ite, ↓wv_add, ↓wv_sub, ↓wv_mul, ↓wv_fdiv, ↓wv_mod, ↓wv_range, ↓wv_len_script, ↓wv_len_tup, ↓wv_int, ↓go_eq, ↓go_ne, ↓go_neB, ↓go_isNotB, ↓go_isB, ↓go_lt, ↓go_gt, ↓go_le, ↓go_ge, ↓go_isNone_none, ↓go_isNone_int, ↓go_isNotNone_none, ↓go_isNotNone_int, ↓wi_int_int, ↓wi_int_bool, ↓wi_int_tup, ↓wi_int_list, ↓wi_bool_int, ↓wi_bool_bool, ↓wi_bool_tup, ↓wi_none_tup, ↓wi_none_int, ↓wi_str_tup, ↓wi_str_int, ↓wi_tup_tup, ↓wi_tup_int, ↓ws_tup0, ↓ws_tup1, ↓ws_tup2, ↓getV_zero, ↓getV_succ, ↓asBool_bool, ↓getO_some, ↓brB_true, ↓brB_false, ↓brB_not, ↓wp_ret, List.map_cons, List.map_nil, List.cons_append, List.nil_append, List.set_cons_zero, List.set_cons_succ, List.replicate_succ, List.replicate_zero, Bool.not_true, Bool.not_false, and_true, true_and, and_self, brB_pos]
    refine (l01_lies_in (d + 2) R C .none H trivial).then ?_
    rintro _ _ ⟨rfl, rfl⟩
    simp only [↓wp_none, ↓wp_bool, ↓wp_int, ↓wp_str, ↓wp_glob, ↓wp_var, ↓wp_bin, ↓wp_not, ↓wp_and, ↓wp_or, ↓wp_cmp, ↓wp_cmp2, ↓wp_sub, ↓wp_oNone, ↓wp_oSome, ↓wp_tup, ↓wp_list, ↓wp_callE, ↓wp_bf, ↓wp_bm, ↓wp_isinst, ↓wp_nil, ↓wp_cons, ↓wps_nil, ↓wps_cons, ↓wps_pass, ↓wps_expr, ↓wps_assign, ↓wps_ret, ↓wps_ite, ↓wv_add, ↓wv_sub, ↓wv_mul, ↓wv_fdiv, ↓wv_mod, ↓wv_range, ↓wv_len_script, ↓wv_len_tup, ↓wv_int, ↓go_eq, ↓go_ne, ↓go_neB, ↓go_isNotB, ↓go_isB, ↓go_lt, ↓go_gt, ↓go_le, ↓go_ge, ↓go_isNone_none, ↓go_isNone_int, ↓go_isNotNone_none, ↓go_isNotNone_int, ↓wi_int_int, ↓wi_int_bool, ↓wi_int_tup, ↓wi_int_list, ↓wi_bool_int, ↓wi_bool_bool, ↓wi_bool_tup, ↓wi_none_tup, ↓wi_none_int, ↓wi_str_tup, ↓wi_str_int, ↓wi_tup_tup, ↓wi_tup_int, ↓ws_tup0, ↓ws_tup1, ↓ws_tup2, ↓getV_zero, ↓getV_succ, ↓asBool_bool, ↓getO_some, ↓brB_true, ↓brB_false, ↓brB_not, ↓wp_ret, List.map_cons, List.map_nil, List.cons_append, List.nil_append, List.set_cons_zero, List.set_cons_succ, List.replicate_succ, List.replicate_zero, Bool.not_true, Bool.not_false, and_true, true_and, and_self, lies, brB_pos]
    refine (l01_lies_in (d + 2) R C (.int 7) _ trivial).then ?_
    rintro _ _ ⟨rfl, rfl⟩
    simp only [↓wp_none, ↓wp_bool, ↓wp_int, ↓wp_str, ↓wp_glob, ↓wp_var, ↓wp_bin, ↓wp_not, ↓wp_and, ↓wp_or, ↓wp_cmp, ↓wp_cmp2, ↓wp_sub, ↓wp_oNone, ↓wp_oSome, ↓wp_tup, ↓wp_list, ↓wp_callE, ↓wp_bf, ↓wp_bm, ↓wp_isinst, ↓wp_nil, ↓wp_cons, ↓wps_nil, ↓wps_cons, ↓wps_pass, ↓wps_expr, ↓wps_assign, ↓wps_ret, ↓wps_ite, ↓wv_add, ↓wv_sub, ↓wv_mul, ↓wv_fdiv, ↓wv_mod, ↓wv_range, ↓wv_len_script, ↓wv_len_tup, ↓wv_int, ↓go_eq, ↓go_ne, ↓go_neB, ↓go_isNotB, ↓go_isB, ↓go_lt, ↓go_gt, ↓go_le, ↓go_ge, ↓go_isNone_none, ↓go_isNone_int, ↓go_isNotNone_none, ↓go_isNotNone_int, ↓wi_int_int, ↓wi_int_bool, ↓wi_int_tup, ↓wi_int_list, ↓wi_bool_int, ↓wi_bool_bool, ↓wi_bool_tup, ↓wi_none_tup, ↓wi_none_int, ↓wi_str_tup, ↓wi_str_int, ↓wi_tup_tup, ↓wi_tup_int, ↓ws_tup0, ↓ws_tup1, ↓ws_tup2, ↓getV_zero, ↓getV_succ, ↓asBool_bool, ↓getO_some, ↓brB_true, ↓brB_false, ↓brB_not, ↓wp_ret, List.map_cons, List.map_nil, List.cons_append, List.nil_append, List.set_cons_zero, List.set_cons_succ, List.replicate_succ, List.replicate_zero, Bool.not_true, Bool.not_false, and_true, true_and, and_self, lies, decide_true]
  intro H _
  refine wps_asg (fun v H' => ∃ F : Nat, F ≤ 30 ∧ v = .int F) ?_ ?_
  · simp only [↓wp_none, ↓wp_bool, ↓wp_int, ↓wp_str, ↓wp_glob, ↓wp_var, ↓wp_bin, ↓wp_not, ↓wp_and, ↓wp_or, ↓wp_cmp, ↓wp_cmp2, ↓wp_sub, ↓wp_oNone, ↓wp_oSome, ↓wp_tup, ↓wp_list, ↓wp_callE, ↓wp_bf, ↓wp_bm, ↓wp_isinst, ↓wp_nil, ↓wp_cons, ↓wps_nil, ↓wps_cons, ↓wps_pass, ↓wps_expr, ↓wps_assign, ↓wps_ret, ↓wps_ite, ↓wv_add, ↓wv_sub, ↓wv_mul, ↓wv_fdiv, ↓wv_mod, ↓wv_range, ↓wv_len_script, ↓wv_len_tup, ↓wv_int, ↓go_eq, ↓go_ne, ↓go_neB, ↓go_isNotB, ↓go_isB, ↓go_lt, ↓go_gt, ↓go_le, ↓go_ge, ↓go_isNone_none, ↓go_isNone_int, ↓go_isNotNone_none, ↓go_isNotNone_int, ↓wi_int_int, ↓wi_int_bool, ↓wi_int_tup, ↓wi_int_list, ↓wi_bool_int, ↓wi_bool_bool, ↓wi_bool_tup, ↓wi_none_tup, ↓wi_none_int, ↓wi_str_tup, ↓wi_str_int, ↓wi_tup_tup, ↓wi_tup_int, ↓ws_tup0, ↓ws_tup1, ↓ws_tup2, ↓getV_zero, ↓getV_succ, ↓asBool_bool, ↓getO_some, ↓brB_true, ↓brB_false, ↓brB_not, ↓wp_ret, List.map_cons, List.map_nil, List.cons_append, List.nil_append, List.set_cons_zero, List.set_cons_succ, List.replicate_succ, List.replicate_zero, Bool.not_true, Bool.not_false, and_true, true_and, and_self, h4, not_false_eq_true]
    refine (l01_cell_at (d + 3) ns 5 _).then ?_
    rintro _ _ ⟨rfl, rfl⟩
    simp only [↓wp_none, ↓wp_bool, ↓wp_int, ↓wp_str, ↓wp_glob, ↓wp_var, ↓wp_bin, ↓wp_not, ↓wp_and, ↓wp_or, ↓wp_cmp, ↓wp_cmp2, ↓wp_sub, ↓wp_oNone, ↓wp_oSome, ↓wp_tup, ↓wp_list, ↓wp_callE, ↓wp_bf, ↓wp_bm, ↓wp_isinst, ↓wp_nil, ↓wp_cons, ↓wps_nil, ↓wps_cons, ↓wps_pass, ↓wps_expr, ↓wps_assign, ↓wps_ret, ↓wps_ite, ↓wv_add, ↓wv_sub, ↓wv_mul, ↓wv_fdiv, ↓wv_mod, ↓wv_range, ↓wv_len_script, ↓wv_len_tup, ↓wv_int, ↓go_eq, ↓go_ne, ↓go_neB, ↓go_isNotB, ↓go_isB, ↓go_lt, ↓go_gt, ↓go_le, ↓go_ge, ↓go_isNone_none, ↓go_isNone_int, ↓go_isNotNone_none, ↓go_isNotNone_int, ↓wi_int_int, ↓wi_int_bool, ↓wi_int_tup, ↓wi_int_list, ↓wi_bool_int, ↓wi_bool_bool, ↓wi_bool_tup, ↓wi_none_tup, ↓wi_none_int, ↓wi_str_tup, ↓wi_str_int, ↓wi_tup_tup, ↓wi_tup_int, ↓ws_tup0, ↓ws_tup1, ↓ws_tup2, ↓getV_zero, ↓getV_succ, ↓asBool_bool, ↓getO_some, ↓brB_true, ↓brB_false, ↓brB_not, ↓wp_ret, List.map_cons, List.map_nil, List.cons_append, List.nil_append, List.set_cons_zero, List.set_cons_succ, List.replicate_succ, List.replicate_zero, Bool.not_true, Bool.not_false, and_true, true_and, and_self, h4, not_false_eq_true]
    have := fmod_rng (C : Int) (m := 4) (by decide)
    cases decide ((cellAt ns 5).fmod 4 = 1) with
    | true => exact ws_list (get_new _ _) (by decide) rfl ⟨C, hC, rfl⟩
    | false => exact ws_list (get_new _ _) (by decide) rfl ⟨(1 + (C : Int).fmod 4).toNat, by omega, congrArg Val.int (by omega)⟩
  rintro _ H ⟨F, hF, rfl⟩
  refine wps_asg (fun v H' => ∃ l, v = .loc l ∧ H'[l]? = some (.list [])) ?_ ?_
  · simp only [↓wp_none, ↓wp_bool, ↓wp_int, ↓wp_str, ↓wp_glob, ↓wp_var, ↓wp_bin, ↓wp_not, ↓wp_and, ↓wp_or, ↓wp_cmp, ↓wp_cmp2, ↓wp_sub, ↓wp_oNone, ↓wp_oSome, ↓wp_tup, ↓wp_list, ↓wp_callE, ↓wp_bf, ↓wp_bm, ↓wp_isinst, ↓wp_nil, ↓wp_cons, ↓wps_nil, ↓wps_cons, ↓wps_pass, ↓wps_expr, ↓wps_assign, ↓wps_ret, ↓wps_ite, ↓wv_add, ↓wv_sub, ↓wv_mul, ↓wv_fdiv, ↓wv_mod, ↓wv_range, ↓wv_len_script, ↓wv_len_tup, ↓wv_int, ↓go_eq, ↓go_ne, ↓go_neB, ↓go_isNotB, ↓go_isB, ↓go_lt, ↓go_gt, ↓go_le, ↓go_ge, ↓go_isNone_none, ↓go_isNone_int, ↓go_isNotNone_none, ↓go_isNotNone_int, ↓wi_int_int, ↓wi_int_bool, ↓wi_int_tup, ↓wi_int_list, ↓wi_bool_int, ↓wi_bool_bool, ↓wi_bool_tup, ↓wi_none_tup, ↓wi_none_int, ↓wi_str_tup, ↓wi_str_int, ↓wi_tup_tup, ↓wi_tup_int, ↓ws_tup0, ↓ws_tup1, ↓ws_tup2, ↓getV_zero, ↓getV_succ, ↓asBool_bool, ↓getO_some, ↓brB_true, ↓brB_false, ↓brB_not, ↓wp_ret, List.map_cons, List.map_nil, List.cons_append, List.nil_append, List.set_cons_zero, List.set_cons_succ, List.replicate_succ, List.replicate_zero, Bool.not_true, Bool.not_false, and_true, true_and, and_self]
    exact ⟨_, rfl, get_new _ _⟩
  rintro _ H ⟨l, rfl, hl⟩
  refine wps_seq (fun Γ H => (∃ a b e g, Γ = [some (.script ns), some (.int R), some (.int C), some (.int r), some (.int c), a, b, some v, some (.int F), some (.loc l), e, g]) ∧ H[l]? = some (.list ((gridL F R).map pr))) ?_ ?_
  · refine wps_grid (l := l) (m := R) (n := F) (fun Γ => ∃ a b e g, Γ = [some (.script ns), some (.int R), some (.int C), some (.int r), some (.int c), a, b, some v, some (.int F), some (.loc l), e, g]) ?_ ?_ ?_ ?_ ?_ ?_ ?_ (by decide) (by omega) (by omega) ⟨_, _, _, _, rfl⟩ hl ?_
    · rintro Γ v ⟨a, b, e, g, rfl⟩; exact ⟨_, _, _, _, rfl⟩
    · rintro Γ v ⟨a, b, e, g, rfl⟩; exact ⟨_, _, _, _, rfl⟩
    · rintro Γ ⟨a, b, e, g, rfl⟩; rfl
    · rintro Γ ⟨a, b, e, g, rfl⟩; rfl
    · rintro Γ ⟨a, b, e, g, rfl⟩; rfl
    · rintro Γ ⟨a, b, e, g, rfl⟩; simp
    · rintro Γ ⟨a, b, e, g, rfl⟩; simp
    · rintro Γ p
      exact ⟨p, get_set _ hl⟩
  rintro Γ H ⟨⟨a, b, e, g, rfl⟩, hl⟩
  refine wps_seq (fun Γ H => True) ?_ ?_
  · refine wps_eachR (n := 2) (fun k Γ H => (∃ a b e g, Γ = [some (.script ns), some (.int R), some (.int C), some (.int r), some (.int c), a, b, some v, some (.int F), some (.loc l), e, g]) ∧ H[l]? = some (.list ((gridL F R).map pr))) ?_ (by decide) ⟨⟨_, _, _, _, rfl⟩, hl⟩ ?_ (fun Γ H h => trivial)
    · simp only [↓wp_none, ↓wp_bool, ↓wp_int, ↓wp_str, ↓wp_glob, ↓wp_var, ↓wp_bin, ↓wp_not, ↓wp_and, ↓wp_or, ↓wp_cmp, ↓wp_cmp2, ↓wp_sub, ↓wp_oNone, ↓wp_oSome, ↓wp_tup, ↓wp_list, ↓wp_callE, ↓wp_bf, ↓wp_bm, ↓wp_isinst, ↓wp_nil, ↓wp_cons, ↓wps_nil, ↓wps_cons, ↓wps_pass, ↓wps_expr, ↓wps_assign, ↓wps_ret, ↓wps_ite, ↓wv_add, ↓wv_sub, ↓wv_mul, ↓wv_fdiv, ↓wv_mod, ↓wv_range, ↓wv_len_script, ↓wv_len_tup, ↓wv_int, ↓go_eq, ↓go_ne, ↓go_neB, ↓go_isNotB, ↓go_isB, ↓go_lt, ↓go_gt, ↓go_le, ↓go_ge, ↓go_isNone_none, ↓go_isNone_int, ↓go_isNotNone_none, ↓go_isNotNone_int, ↓wi_int_int, ↓wi_int_bool, ↓wi_int_tup, ↓wi_int_list, ↓wi_bool_int, ↓wi_bool_bool, ↓wi_bool_tup, ↓wi_none_tup, ↓wi_none_int, ↓wi_str_tup, ↓wi_str_int, ↓wi_tup_tup, ↓wi_tup_int, ↓ws_tup0, ↓ws_tup1, ↓ws_tup2, ↓getV_zero, ↓getV_succ, ↓asBool_bool, ↓getO_some, ↓brB_true, ↓brB_false, ↓brB_not, ↓wp_ret, List.map_cons, List.map_nil, List.cons_append, List.nil_append, List.set_cons_zero, List.set_cons_succ, List.replicate_succ, List.replicate_zero, Bool.not_true, Bool.not_false, and_true, true_and, and_self]
    · rintro k Γ H _ ⟨⟨a, b, e, g, rfl⟩, hl⟩
      refine wps_asg (fun v H' => ∃ m, v = .loc m ∧ m ≠ l ∧ H'[m]? = some (.list ((gridL F R).map pr)) ∧ H'[l]? = some (.list ((gridL F R).map pr))) ?_ ?_
      · simp only [↓wp_none, ↓wp_bool, ↓wp_int, ↓wp_str, ↓wp_glob, ↓wp_var, ↓wp_bin, ↓wp_not, ↓wp_and, ↓wp_or, ↓wp_cmp, ↓wp_cmp2, ↓wp_sub, ↓wp_oNone, ↓wp_oSome, ↓wp_tup, ↓wp_list, ↓wp_callE, ↓wp_bf, ↓wp_bm, ↓wp_isinst, ↓wp_nil, ↓wp_cons, ↓wps_nil, ↓wps_cons, ↓wps_pass, ↓wps_expr, ↓wps_assign, ↓wps_ret, ↓wps_ite, ↓wv_add, ↓wv_sub, ↓wv_mul, ↓wv_fdiv, ↓wv_mod, ↓wv_range, ↓wv_len_script, ↓wv_len_tup, ↓wv_int, ↓go_eq, ↓go_ne, ↓go_neB, ↓go_isNotB, ↓go_isB, ↓go_lt, ↓go_gt, ↓go_le, ↓go_ge, ↓go_isNone_none, ↓go_isNone_int, ↓go_isNotNone_none, ↓go_isNotNone_int, ↓wi_int_int, ↓wi_int_bool, ↓wi_int_tup, ↓wi_int_list, ↓wi_bool_int, ↓wi_bool_bool, ↓wi_bool_tup, ↓wi_none_tup, ↓wi_none_int, ↓wi_str_tup, ↓wi_str_int, ↓wi_tup_tup, ↓wi_tup_int, ↓ws_tup0, ↓ws_tup1, ↓ws_tup2, ↓getV_zero, ↓getV_succ, ↓asBool_bool, ↓getO_some, ↓brB_true, ↓brB_false, ↓brB_not, ↓wp_ret, List.map_cons, List.map_nil, List.cons_append, List.nil_append, List.set_cons_zero, List.set_cons_succ, List.replicate_succ, List.replicate_zero, Bool.not_true, Bool.not_false, and_true, true_and, and_self]
        refine (l01_all_cells (d + 3) R F H (by omega) (by omega)).then ?_
        rintro _ H' ⟨m, rfl, hm, hx, hg⟩
        have := lt_of_get hl
        exact ⟨m, rfl, by omega, hg, hx.get hl⟩
      rintro _ H ⟨m, rfl, hml, hm, hl⟩
      refine wps_no (fun H' => H'[m]? = some (.list ((gridL F R).map pr)) ∧ H'[l]? = some (.list ((gridL F R).map pr))) ?_ ?_
      · simp only [↓wp_none, ↓wp_bool, ↓wp_int, ↓wp_str, ↓wp_glob, ↓wp_var, ↓wp_bin, ↓wp_not, ↓wp_and, ↓wp_or, ↓wp_cmp, ↓wp_cmp2, ↓wp_sub, ↓wp_oNone, ↓wp_oSome, ↓wp_tup, ↓wp_list, ↓wp_callE, ↓wp_bf, ↓wp_bm, ↓wp_isinst, ↓wp_nil, ↓wp_cons, ↓wps_nil, ↓wps_cons, ↓wps_pass, ↓wps_expr, ↓wps_assign, ↓wps_ret, ↓wps_ite, ↓wv_add, ↓wv_sub, ↓wv_mul, ↓wv_fdiv, ↓wv_mod, ↓wv_range, ↓wv_len_script, ↓wv_len_tup, ↓wv_int, ↓go_eq, ↓go_ne, ↓go_neB, ↓go_isNotB, ↓go_isB, ↓go_lt, ↓go_gt, ↓go_le, ↓go_ge, ↓go_isNone_none, ↓go_isNone_int, ↓go_isNotNone_none, ↓go_isNotNone_int, ↓wi_int_int, ↓wi_int_bool, ↓wi_int_tup, ↓wi_int_list, ↓wi_bool_int, ↓wi_bool_bool, ↓wi_bool_tup, ↓wi_none_tup, ↓wi_none_int, ↓wi_str_tup, ↓wi_str_int, ↓wi_tup_tup, ↓wi_tup_int, ↓ws_tup0, ↓ws_tup1, ↓ws_tup2, ↓getV_zero, ↓getV_succ, ↓asBool_bool, ↓getO_some, ↓brB_true, ↓brB_false, ↓brB_not, ↓wp_ret, List.map_cons, List.map_nil, List.cons_append, List.nil_append, List.set_cons_zero, List.set_cons_succ, List.replicate_succ, List.replicate_zero, Bool.not_true, Bool.not_false, and_true, true_and, and_self]
        refine (l01_same (d + 2) m l _ H hm hl).then ?_
        rintro _ H2 ⟨rfl, hx2⟩
        simp only [↓wp_none, ↓wp_bool, ↓wp_int, ↓wp_str, ↓wp_glob, ↓wp_var, ↓wp_bin, ↓wp_not, ↓wp_and, ↓wp_or, ↓wp_cmp, ↓wp_cmp2, ↓wp_sub, ↓wp_oNone, ↓wp_oSome, ↓wp_tup, ↓wp_list, ↓wp_callE, ↓wp_bf, ↓wp_bm, ↓wp_isinst, ↓wp_nil, ↓wp_cons, ↓wps_nil, ↓wps_cons, ↓wps_pass, ↓wps_expr, ↓wps_assign, ↓wps_ret, ↓wps_ite, ↓wv_add, ↓wv_sub, ↓wv_mul, ↓wv_fdiv, ↓wv_mod, ↓wv_range, ↓wv_len_script, ↓wv_len_tup, ↓wv_int, ↓go_eq, ↓go_ne, ↓go_neB, ↓go_isNotB, ↓go_isB, ↓go_lt, ↓go_gt, ↓go_le, ↓go_ge, ↓go_isNone_none, ↓go_isNone_int, ↓go_isNotNone_none, ↓go_isNotNone_int, ↓wi_int_int, ↓wi_int_bool, ↓wi_int_tup, ↓wi_int_list, ↓wi_bool_int, ↓wi_bool_bool, ↓wi_bool_tup, ↓wi_none_tup, ↓wi_none_int, ↓wi_str_tup, ↓wi_str_int, ↓wi_tup_tup, ↓wi_tup_int, ↓ws_tup0, ↓ws_tup1, ↓ws_tup2, ↓getV_zero, ↓getV_succ, ↓asBool_bool, ↓getO_some, ↓brB_true, ↓brB_false, ↓brB_not, ↓wp_ret, List.map_cons, List.map_nil, List.cons_append, List.nil_append, List.set_cons_zero, List.set_cons_succ, List.replicate_succ, List.replicate_zero, Bool.not_true, Bool.not_false, and_true, true_and, and_self]
        exact ⟨hx2.get hm, hx2.get hl⟩
      rintro H ⟨hm, hl⟩
      refine wps_ex (fun H' => H'[l]? = some (.list ((gridL F R).map pr))) ?_ ?_
      · simp only [↓wp_none, ↓wp_bool, ↓wp_int, ↓wp_str, ↓wp_glob, ↓wp_var, ↓wp_bin, ↓wp_not, ↓wp_and, ↓wp_or, ↓wp_cmp, ↓wp_cmp2, ↓wp_sub, ↓wp_oNone, ↓wp_oSome, ↓wp_tup, ↓wp_list, ↓wp_callE, ↓wp_bf, ↓wp_bm, ↓wp_isinst, ↓wp_nil, ↓wp_cons, ↓wps_nil, ↓wps_cons, ↓wps_pass, ↓wps_expr, ↓wps_assign, ↓wps_ret, ↓wps_ite, ↓wv_add, ↓wv_sub, ↓wv_mul, ↓wv_fdiv, ↓wv_mod, ↓wv_range, ↓wv_len_script, ↓wv_len_tup, ↓wv_int, ↓go_eq, ↓go_ne, ↓go_neB, ↓go_isNotB, ↓go_isB, ↓go_lt, ↓go_gt, ↓go_le, ↓go_ge, ↓go_isNone_none, ↓go_isNone_int, ↓go_isNotNone_none, ↓go_isNotNone_int, ↓wi_int_int, ↓wi_int_bool, ↓wi_int_tup, ↓wi_int_list, ↓wi_bool_int, ↓wi_bool_bool, ↓wi_bool_tup, ↓wi_none_tup, ↓wi_none_int, ↓wi_str_tup, ↓wi_str_int, ↓wi_tup_tup, ↓wi_tup_int, ↓ws_tup0, ↓ws_tup1, ↓ws_tup2, ↓getV_zero, ↓getV_succ, ↓asBool_bool, ↓getO_some, ↓brB_true, ↓brB_false, ↓brB_not, ↓wp_ret, List.map_cons, List.map_nil, List.cons_append, List.nil_append, List.set_cons_zero, List.set_cons_succ, List.replicate_succ, List.replicate_zero, Bool.not_true, Bool.not_false, and_true, true_and, and_self]
        rw [getO_of (fits_clear hm)]
        exact wm_clear hm (get_other _ hml hl)
      intro H hl
      exact ⟨⟨_, _, _, _, rfl⟩, hl⟩
  intro Γ H _
  simp only [↓wp_none, ↓wp_bool, ↓wp_int, ↓wp_str, ↓wp_glob, ↓wp_var, ↓wp_bin, ↓wp_not, ↓wp_and, ↓wp_or, ↓wp_cmp, ↓wp_cmp2, ↓wp_sub, ↓wp_oNone, ↓wp_oSome, ↓wp_tup, ↓wp_list, ↓wp_callE, ↓wp_bf, ↓wp_bm, ↓wp_isinst, ↓wp_nil, ↓wp_cons, ↓wps_nil, ↓wps_cons, ↓wps_pass, ↓wps_expr, ↓wps_assign, ↓wps_ret, ↓wps_ite, ↓wv_add, ↓wv_sub, ↓wv_mul, ↓wv_fdiv, ↓wv_mod, ↓wv_range, ↓wv_len_script, ↓wv_len_tup, ↓wv_int, ↓go_eq, ↓go_ne, ↓go_neB, ↓go_isNotB, ↓go_isB, ↓go_lt, ↓go_gt, ↓go_le, ↓go_ge, ↓go_isNone_none, ↓go_isNone_int, ↓go_isNotNone_none, ↓go_isNotNone_int, ↓wi_int_int, ↓wi_int_bool, ↓wi_int_tup, ↓wi_int_list, ↓wi_bool_int, ↓wi_bool_bool, ↓wi_bool_tup, ↓wi_none_tup, ↓wi_none_int, ↓wi_str_tup, ↓wi_str_int, ↓wi_tup_tup, ↓wi_tup_int, ↓ws_tup0, ↓ws_tup1, ↓ws_tup2, ↓getV_zero, ↓getV_succ, ↓asBool_bool, ↓getO_some, ↓brB_true, ↓brB_false, ↓brB_not, ↓wp_ret, List.map_cons, List.map_nil, List.cons_append, List.nil_append, List.set_cons_zero, List.set_cons_succ, List.replicate_succ, List.replicate_zero, Bool.not_true, Bool.not_false, and_true, true_and, and_self]
theorem law_01 (ns : List Int) (h : ns.length ≤ 63) : ∃ H', callF T_01 20 10 [.script ns] [] = .ok (.bool true) H' := by
  obtain ⟨v, H', e, rfl⟩ := (l01_law 15 ns []).get
  exact ⟨H', e⟩
end Mine.Pure

namespace Mine
def fns_01 : List PySem.Addr := [21, 28, 33, 40, 47, 54, 61, 68, 75, 82, 89]
end Mine
open PySem PySem.W PySem.W.X PySem.W.ZRun PyProof.Rows
set_option maxRecDepth 100000 in
set_option maxHeartbeats 0 in
theorem PySem.Challenge.cw_uf020016_01_holds : PySem.Challenge.rw_uf020016_01.Holds := by
  w_on
  o_law
  z_head
  (case hw => w_witness2)
  k_fill
  intro w s₀ s₁ mg mb G y fa o pm cd doc dV kV ho hd hcd hD hmg hg args vals as L hpre hlay hrd hwl hlo
  z_open y L KX ZH ZN ZT
  refine Ground.open G ?_
  intro T B D TE TW
  wrow_args hpre hlay hrd hwl hlo
  refine Mine.finish (N := Mine.N_01) (T := Mine.T_01) (cls := []) (attrs := []) (fns := Mine.fns_01) (nss := Mine.V_01) (k := 10) (d := 20) ZH T.g T.b T.builtins T.nolimit (by kernel_rfl) (by kernel_rfl) (script_obj L (by assumption)) (by assumption) (by omega) hmg rfl ⟨rfl, by decide, by decide⟩ (Mine.Pure.law_01 _ (by omega)) ?_
  intro s' hk ho' hg'
  exact ⟨.inl ⟨_, .bool true, [], rfl, raisesW_false (by wrow_none_raised), .bool true, by wrow_post, fun _ => ⟨List.nodup_nil, fun a ha => by cases ha⟩⟩, .of_keep hk, ho', .of_eq (hg'.trans hg)⟩
