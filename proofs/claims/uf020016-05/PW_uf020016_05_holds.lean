import PyProof.Rows.All
import PyProof.StrBlock
import PyProof.StrBlockI
import PyProof.P3Statements
import PyProof.RaisesMany
import PyProof.ExcArgsOwn
import KE.KIsNot
import PyProof.DictRoadsH
import PyProof.DictKinds
import PyProof.InstLoad
import PyProof.ObjNew
import PyProof.Cells
import PyProof.WalksMore
import PyProof.Calls
import PyProof.DefCall
import PyProof.ListMulRoad
import PyProof.Rows.ListMul
import PyProof.ExcClass2
import PyProof.ExcBaseAll.ValueError
import PyProof.TupleKey
import PyProof.IsiSeqPairs
import PyProof.IsiNone
import PyProof.TupleOfSeq
import PyProof.ListRange
import PyProof.WalkInts
import PyProof.CallRoads
import PyProof.MeetsSeq
import PyProof.RulesTry
import PyProof.StrWalks
import KE.KSortTup
import PyProof.RulesDelMore
import PyProof.CompFree
import PyProof.CompUse
import PyProof.LetGo
import PyProof.AssignAttr
import PyProof.InstStoreFacts
import PyProof.SliceMore
import PyProof.WalksPairs
import PyProof.ZipIter
import PyProof.EnumFor
import PyProof.ListIndex
import PyProof.RulesAs
import Open.FastRun
import Wide.All
import OpenK.AllK
import Wide.FinOn
import Lean
import PySem.Challenge.RW_uf020016_05
set_option Elab.async false
set_option autoImplicit false
set_option genSizeOfSpec false
set_option genSizeOf false
set_option backward.match.sparseCases false
set_option genInjectivity false
set_option tactic.hygienic false
set_option bootstrap.genMatcherCode false
set_option linter.all false
set_option linter.unusedSimpArgs false
-- part MLang
namespace Mine
theorem ex1 {α1 : Sort _} {p : α1 → Prop} {G : Prop} (h : ∃ x1 : α1, p x1) (k : (x1 : α1) → p x1 → G) : G := h.elim fun x1 h => k x1 h
theorem ex2 {α1 α2 : Sort _} {p : α1 → α2 → Prop} {G : Prop} (h : ∃ x1 : α1, ∃ x2 : α2, p x1 x2) (k : (x1 : α1) → (x2 : α2) → p x1 x2 → G) : G := h.elim fun x1 h => h.elim fun x2 h => k x1 x2 h
theorem ex3 {α1 α2 α3 : Sort _} {p : α1 → α2 → α3 → Prop} {G : Prop} (h : ∃ x1 : α1, ∃ x2 : α2, ∃ x3 : α3, p x1 x2 x3) (k : (x1 : α1) → (x2 : α2) → (x3 : α3) → p x1 x2 x3 → G) : G := h.elim fun x1 h => h.elim fun x2 h => h.elim fun x3 h => k x1 x2 x3 h
theorem ex4 {α1 α2 α3 α4 : Sort _} {p : α1 → α2 → α3 → α4 → Prop} {G : Prop} (h : ∃ x1 : α1, ∃ x2 : α2, ∃ x3 : α3, ∃ x4 : α4, p x1 x2 x3 x4) (k : (x1 : α1) → (x2 : α2) → (x3 : α3) → (x4 : α4) → p x1 x2 x3 x4 → G) : G := h.elim fun x1 h => h.elim fun x2 h => h.elim fun x3 h => h.elim fun x4 h => k x1 x2 x3 x4 h
theorem ex5 {α1 α2 α3 α4 α5 : Sort _} {p : α1 → α2 → α3 → α4 → α5 → Prop} {G : Prop} (h : ∃ x1 : α1, ∃ x2 : α2, ∃ x3 : α3, ∃ x4 : α4, ∃ x5 : α5, p x1 x2 x3 x4 x5) (k : (x1 : α1) → (x2 : α2) → (x3 : α3) → (x4 : α4) → (x5 : α5) → p x1 x2 x3 x4 x5 → G) : G := h.elim fun x1 h => h.elim fun x2 h => h.elim fun x3 h => h.elim fun x4 h => h.elim fun x5 h => k x1 x2 x3 x4 x5 h
theorem ex6 {α1 α2 α3 α4 α5 α6 : Sort _} {p : α1 → α2 → α3 → α4 → α5 → α6 → Prop} {G : Prop} (h : ∃ x1 : α1, ∃ x2 : α2, ∃ x3 : α3, ∃ x4 : α4, ∃ x5 : α5, ∃ x6 : α6, p x1 x2 x3 x4 x5 x6) (k : (x1 : α1) → (x2 : α2) → (x3 : α3) → (x4 : α4) → (x5 : α5) → (x6 : α6) → p x1 x2 x3 x4 x5 x6 → G) : G := h.elim fun x1 h => h.elim fun x2 h => h.elim fun x3 h => h.elim fun x4 h => h.elim fun x5 h => h.elim fun x6 h => k x1 x2 x3 x4 x5 x6 h
theorem ex7 {α1 α2 α3 α4 α5 α6 α7 : Sort _} {p : α1 → α2 → α3 → α4 → α5 → α6 → α7 → Prop} {G : Prop} (h : ∃ x1 : α1, ∃ x2 : α2, ∃ x3 : α3, ∃ x4 : α4, ∃ x5 : α5, ∃ x6 : α6, ∃ x7 : α7, p x1 x2 x3 x4 x5 x6 x7) (k : (x1 : α1) → (x2 : α2) → (x3 : α3) → (x4 : α4) → (x5 : α5) → (x6 : α6) → (x7 : α7) → p x1 x2 x3 x4 x5 x6 x7 → G) : G := h.elim fun x1 h => h.elim fun x2 h => h.elim fun x3 h => h.elim fun x4 h => h.elim fun x5 h => h.elim fun x6 h => h.elim fun x7 h => k x1 x2 x3 x4 x5 x6 x7 h
theorem ex14 {α1 α2 α3 α4 α5 α6 α7 α8 α9 α10 α11 α12 α13 α14 : Sort _} {p : α1 → α2 → α3 → α4 → α5 → α6 → α7 → α8 → α9 → α10 → α11 → α12 → α13 → α14 → Prop} {G : Prop} (h : ∃ x1 : α1, ∃ x2 : α2, ∃ x3 : α3, ∃ x4 : α4, ∃ x5 : α5, ∃ x6 : α6, ∃ x7 : α7, ∃ x8 : α8, ∃ x9 : α9, ∃ x10 : α10, ∃ x11 : α11, ∃ x12 : α12, ∃ x13 : α13, ∃ x14 : α14, p x1 x2 x3 x4 x5 x6 x7 x8 x9 x10 x11 x12 x13 x14) (k : (x1 : α1) → (x2 : α2) → (x3 : α3) → (x4 : α4) → (x5 : α5) → (x6 : α6) → (x7 : α7) → (x8 : α8) → (x9 : α9) → (x10 : α10) → (x11 : α11) → (x12 : α12) → (x13 : α13) → (x14 : α14) → p x1 x2 x3 x4 x5 x6 x7 x8 x9 x10 x11 x12 x13 x14 → G) : G := h.elim fun x1 h => h.elim fun x2 h => h.elim fun x3 h => h.elim fun x4 h => h.elim fun x5 h => h.elim fun x6 h => h.elim fun x7 h => h.elim fun x8 h => h.elim fun x9 h => h.elim fun x10 h => h.elim fun x11 h => h.elim fun x12 h => h.elim fun x13 h => h.elim fun x14 h => k x1 x2 x3 x4 x5 x6 x7 x8 x9 x10 x11 x12 x13 x14 h
theorem aNd2 {p1 p2 G : Prop} (h : p1 ∧ p2) (k : p1 → p2 → G) : G := k (h.1) (h.2)
theorem aNd3 {p1 p2 p3 G : Prop} (h : p1 ∧ p2 ∧ p3) (k : p1 → p2 → p3 → G) : G := k (h.1) (h.2.1) (h.2.2)
theorem aNd4 {p1 p2 p3 p4 G : Prop} (h : p1 ∧ p2 ∧ p3 ∧ p4) (k : p1 → p2 → p3 → p4 → G) : G := k (h.1) (h.2.1) (h.2.2.1) (h.2.2.2)
theorem aNd5 {p1 p2 p3 p4 p5 G : Prop} (h : p1 ∧ p2 ∧ p3 ∧ p4 ∧ p5) (k : p1 → p2 → p3 → p4 → p5 → G) : G := k (h.1) (h.2.1) (h.2.2.1) (h.2.2.2.1) (h.2.2.2.2)
theorem aNd6 {p1 p2 p3 p4 p5 p6 G : Prop} (h : p1 ∧ p2 ∧ p3 ∧ p4 ∧ p5 ∧ p6) (k : p1 → p2 → p3 → p4 → p5 → p6 → G) : G := k (h.1) (h.2.1) (h.2.2.1) (h.2.2.2.1) (h.2.2.2.2.1) (h.2.2.2.2.2)
theorem aNd7 {p1 p2 p3 p4 p5 p6 p7 G : Prop} (h : p1 ∧ p2 ∧ p3 ∧ p4 ∧ p5 ∧ p6 ∧ p7) (k : p1 → p2 → p3 → p4 → p5 → p6 → p7 → G) : G := k (h.1) (h.2.1) (h.2.2.1) (h.2.2.2.1) (h.2.2.2.2.1) (h.2.2.2.2.2.1) (h.2.2.2.2.2.2)
theorem aNd10 {p1 p2 p3 p4 p5 p6 p7 p8 p9 p10 G : Prop} (h : p1 ∧ p2 ∧ p3 ∧ p4 ∧ p5 ∧ p6 ∧ p7 ∧ p8 ∧ p9 ∧ p10) (k : p1 → p2 → p3 → p4 → p5 → p6 → p7 → p8 → p9 → p10 → G) : G := k (h.1) (h.2.1) (h.2.2.1) (h.2.2.2.1) (h.2.2.2.2.1) (h.2.2.2.2.2.1) (h.2.2.2.2.2.2.1) (h.2.2.2.2.2.2.2.1) (h.2.2.2.2.2.2.2.2.1) (h.2.2.2.2.2.2.2.2.2)
theorem aNd11 {p1 p2 p3 p4 p5 p6 p7 p8 p9 p10 p11 G : Prop} (h : p1 ∧ p2 ∧ p3 ∧ p4 ∧ p5 ∧ p6 ∧ p7 ∧ p8 ∧ p9 ∧ p10 ∧ p11) (k : p1 → p2 → p3 → p4 → p5 → p6 → p7 → p8 → p9 → p10 → p11 → G) : G := k (h.1) (h.2.1) (h.2.2.1) (h.2.2.2.1) (h.2.2.2.2.1) (h.2.2.2.2.2.1) (h.2.2.2.2.2.2.1) (h.2.2.2.2.2.2.2.1) (h.2.2.2.2.2.2.2.2.1) (h.2.2.2.2.2.2.2.2.2.1) (h.2.2.2.2.2.2.2.2.2.2)
theorem aNd14 {p1 p2 p3 p4 p5 p6 p7 p8 p9 p10 p11 p12 p13 p14 G : Prop} (h : p1 ∧ p2 ∧ p3 ∧ p4 ∧ p5 ∧ p6 ∧ p7 ∧ p8 ∧ p9 ∧ p10 ∧ p11 ∧ p12 ∧ p13 ∧ p14) (k : p1 → p2 → p3 → p4 → p5 → p6 → p7 → p8 → p9 → p10 → p11 → p12 → p13 → p14 → G) : G := k (h.1) (h.2.1) (h.2.2.1) (h.2.2.2.1) (h.2.2.2.2.1) (h.2.2.2.2.2.1) (h.2.2.2.2.2.2.1) (h.2.2.2.2.2.2.2.1) (h.2.2.2.2.2.2.2.2.1) (h.2.2.2.2.2.2.2.2.2.1) (h.2.2.2.2.2.2.2.2.2.2.1) (h.2.2.2.2.2.2.2.2.2.2.2.1) (h.2.2.2.2.2.2.2.2.2.2.2.2.1) (h.2.2.2.2.2.2.2.2.2.2.2.2.2)
theorem os1 {a0 a1 a2 a3 : Nat} (_ : a0 + a3 ≤ a2) (_ : a1 < 2 * a3 + 2 + a0) (_ : a2 + a3 < a1) : a0 + a1 = a2 + a2 + 1 := by lia
theorem os4 {s a b : Nat} (h : b < a) : s ≤ s + a - 1 - b := Nat.le_sub_of_add_le (Nat.le_sub_of_add_le (Nat.add_le_add_left h s))
theorem os5 {a0 a1 a2 a3 : Nat} (_ : a2 ≤ a1 + a3) (_ : a1 < a2) (_ : 2 * a3 + a0 ≤ a2) : a0 ≤ a1 := by lia
theorem os6 {a0 a1 a2 a3 : Nat} (_ : a2 ≤ a1 + a3) (_ : a1 < a2) (_ : 2 * a3 ≤ 0) : a0 ≤ a1 := by lia
theorem os7 {a0 a1 a2 a3 : Nat} (_ : 2 * a2 + a3 ≤ a1) (_ : a0 < a3 + a2) : a0 < a1 := by lia
theorem os8 {a0 a1 a2 a3 : Nat} (_ : 2 * a2 ≤ 0) (_ : a3 ≤ a0 ∧ a0 < a3 + a2) : a0 < a1 := by lia
theorem os9 {s a b : Nat} (h : s ≤ b) (h2 : b < a) : s + a - 1 - b < a := Nat.lt_of_le_of_lt (Nat.sub_le_of_le_add (Nat.sub_le_of_le_add (Nat.le_trans (Nat.add_le_add_right h a) (Nat.le_of_eq (by rw [Nat.add_right_comm, Nat.sub_add_cancel (Nat.zero_lt_of_lt h2), Nat.add_comm]))))) (Nat.sub_lt (Nat.zero_lt_of_lt h2) Nat.one_pos)
theorem o1 {a0 a1 : Nat} (_ : a0 < (a1 + 1)) (_ : ¬ (a0 < a1)) : a0 = a1 := by lia
theorem o2 {a0 a1 a2 : Nat} (_ : ((a0 + (5 * a1)) + 150) < a2) : ((a0 + (5 * a1)) + 147) < a2 := by lia
theorem o3 {a0 a1 a2 : Nat} (_ : ((a0 + (20 * a1)) + 100) < a2) : ((a0 + (20 * a1)) + 90) < a2 := by lia
theorem o4 {a0 a1 a2 : Nat} (_ : ((a0 + (5 * (a1 + 1))) + 150) < a2) : ((a0 + (5 * a1)) + 150) < a2 := by lia
theorem o5 {a0 a1 a2 : Nat} (_ : ((a0 + (20 * (a1 + 1))) + 100) < a2) : (((a0 + 1) + (20 * a1)) + 100) < a2 := by lia
theorem o6 {x0 : Int} (_ : ¬ ((x0 = (0 : Int)) ∨ (1073741824 ≤ (Int.natAbs x0)))) : (Int.natAbs x0) < 1073741824 := by lia
theorem o7 {a0 a1 a2 : Nat} (_ : a0 ≤ a2) (_ : a1 ≤ a2) : (max a0 a1) ≤ a2 := by lia
theorem o8 {a0 a1 : Nat} (_ : (a0 + 100) < a1) : (a0 + 64) < a1 := by lia
theorem o9 {a0 a1 : Nat} (_ : (a0 + 100) < a1) : (a0 + 1) < a1 := by lia
theorem o10 {x0 : Int} (_ : ¬ ((0 : Int) ≤ x0)) : x0 < (0 : Int) := by lia
theorem o11 {a0 : Nat} {x0 : Int} (_ : (0 : Int) ≤ x0) (_ : (Int.toNat x0) < a0) : x0 < ((a0 : Nat) : Int) := by grind
theorem o12 {a0 : Nat} (_ : a0 ≤ 20) : a0 < 30 := by lia
theorem o13 {a0 a1 : Nat} (_ : (a1 - a0) = 0) (_ : a0 ≤ a1) : a0 = a1 := by grind
theorem o14 {a0 a1 a2 : Nat} (_ : a2 < a1) (_ : a0 ≤ a2) : a0 < a1 := by grind
theorem o15 {a0 a1 a2 : Nat} (h1 : (a1 - a0) = (a2 + 1)) (h2 : a0 ≤ a1) : a0 < a1 := Nat.lt_of_sub_eq_succ h1
theorem o16 {a0 a1 a2 : Nat} (h1 : (a0 - a1) = (a2 + 1)) (h2 : a1 ≤ a0) : (a0 - (a1 + 1)) = a2 := congrArg Nat.pred h1
theorem o17 {a0 a1 a2 : Nat} (_ : (a1 - a0) = (a2 + 1)) (_ : a0 ≤ a1) : (a0 + 1) ≤ a1 := by grind
theorem o18 {a0 a1 : Nat} (_ : (a0 + 1) ≤ a1) : a0 ≤ a1 := by grind
theorem o19 {a0 : Nat} (_ : a0 ≤ 1000) : a0 ≤ 16777216 := by lia
theorem o20 {a0 : Nat} (_ : a0 = 6) : 1 < a0 := by grind
theorem o21 {a0 : Nat} (_ : a0 = 11) : 3 < a0 := by lia
theorem o22 {a0 a1 : Nat} (_ : a0 < a1) (_ : a0 = a1) : False := by lia
theorem o23 {a0 a1 a2 : Nat} (_ : ((a0 + (5 * (a1 + 1))) + 147) < a2) : (((a0 + 1) + (5 * a1)) + 150) < a2 := by lia
theorem o24 {a0 a1 a2 : Nat} (_ : ((a0 + (20 * (a1 + 1))) + 90) < a2) : (((a0 + 3) + (20 * a1)) + 100) < a2 := by lia
theorem o25 {a0 a1 a2 : Nat} (_ : (a0 + a2) = a1) : a0 = (min a0 a1) := by lia
theorem o26 {a0 a1 a2 a3 : Nat} (_ : (a0 + a2) = a3) (_ : ¬ (a1 < a0)) : a0 ≤ a1 := by lia
theorem o27 {a0 a1 a2 : Nat} (_ : ((a0 + (5 * (a2 + 1))) + 147) < a1) : a0 < a1 := by lia
theorem o28 {a0 : Nat} {x0 : Int} (_ : a0 < (Int.toNat x0)) : (0 : Int) < ((((Int.toNat x0) : Nat) : Int) - ((a0 : Nat) : Int)) := by lia
theorem o29 {a0 : Nat} : (((a0 + 1) : Nat) : Int) = (((a0 : Nat) : Int) + (1 : Int)) := by grind
theorem o30 {a0 : Nat} {x0 : Int} : ((((Int.toNat x0) : Nat) : Int) - (((a0 + 1) : Nat) : Int)) = (((((Int.toNat x0) : Nat) : Int) - ((a0 : Nat) : Int)) - (1 : Int)) := by grind
theorem o31 {a0 a1 a2 : Nat} (_ : a2 = a0) (_ : a2 ≤ a1) : a0 ≤ a1 := by lia
theorem o32 {a0 : Nat} {x0 : Int} (_ : x0 ≤ ((a0 : Nat) : Int)) : ((((Int.toNat x0) : Nat) : Int) - ((a0 : Nat) : Int)) ≤ (0 : Int) := by lia
theorem o33 {a0 a1 : Nat} (_ : 0 < a1) (_ : a0 = 0) : a0 < a1 := by lia
theorem o34 {a0 : Nat} : (2 * (a0 / 2)) ≤ a0 := by grind
theorem o35 {a0 : Nat} : a0 < ((2 * (a0 / 2)) + 2) := by lia
theorem o36 {a0 a1 a2 a3 : Nat} (h1 : (a0 + a3) ≤ a2) (h2 : (a1 - a0) < ((2 * a3) + 2)) (h3 : a2 < (a1 - a3)) : (((a0 + a1) - 1) - a2) = a2 := Nat.sub_eq_of_eq_add (Nat.sub_eq_of_eq_add (os1 h1 (Nat.not_le.mp fun w => Nat.not_le.mpr h2 (Nat.le_sub_of_add_le w)) (Nat.add_lt_of_lt_sub h3)))
theorem o37 {a0 a1 a2 a3 : Nat} (h1 : (2 * a2) ≤ (a1 - a3)) (h2 : (a3 ≤ a0) ∧ (a0 < (a3 + a2))) : a0 < a1 := (Nat.le_total a3 a1).elim (fun h => os7 (Nat.add_le_of_le_sub h h1) h2.2) fun h => os8 (Nat.sub_eq_zero_of_le h ▸ h1) h2
theorem o38 {a0 a1 a2 a3 : Nat} (h1 : ((a2 - a3) ≤ a1) ∧ (a1 < a2)) (h2 : (2 * a3) ≤ (a2 - a0)) : a0 ≤ a1 := (Nat.le_total a0 a2).elim (fun h => os5 (Nat.le_add_of_sub_le h1.1) h1.2 (Nat.add_le_of_le_sub h h2)) fun h => os6 (Nat.le_add_of_sub_le h1.1) h1.2 (Nat.sub_eq_zero_of_le h ▸ h2)
theorem o39 {a0 a1 : Nat} : a0 ≤ (a0 + (a1 + 1)) := by grind
theorem o40 {a0 a1 : Nat} (h1 : 1 ≤ a1) (h2 : a0 < a1) (h3 : ¬ (a0 = (a1 - 1))) : a0 < (a1 - 1) := Nat.lt_of_le_of_ne (Nat.le_sub_one_of_lt h2) h3
theorem o41 {a0 : Nat} (_ : 1 ≤ a0) : (a0 - 1) < a0 := by omega
theorem o42 {a0 a1 : Nat} (_ : a0 < (a1 + 1)) (_ : ¬ (a0 = a1)) : a0 < a1 := by lia
theorem o43 {a0 : Nat} (_ : 1 ≤ a0) : 1 ≤ (a0 + 1) := by grind
theorem o44 {a0 a1 a2 a3 : Nat} (h1 : ((a0 - (a1 + 1)) ≤ a3) ∧ (a3 < a0)) (h2 : a3 < a2) (h3 : a2 < a0) : ((a0 - (a1 + 1)) ≤ a2) ∧ (a2 < a0) := ⟨Nat.le_trans h1.1 (Nat.le_of_lt h2), h3⟩
theorem o45 {a0 a1 a2 a3 : Nat} (h1 : ((a0 - (a1 + 1)) ≤ a2) ∧ (a2 < a0)) (h2 : (a1 + 1) ≤ a0) (h3 : a2 < a3) (h4 : a3 < a0) : a0 ≤ ((((((a0 - (a1 + 1)) + a0) - 1) - a2) + a1) + 1) := Nat.le_trans (Nat.le_of_eq (Nat.sub_add_cancel h2).symm) (Nat.add_le_add_right (os4 h1.2) (a1 + 1))
theorem o46 {a0 a1 a2 a3 : Nat} (h1 : ((a0 - (a1 + 1)) ≤ a2) ∧ (a2 < a0)) (h2 : a2 < a3) (h3 : a3 < a0) : ((((a0 - (a1 + 1)) + a0) - 1) - a2) < a0 := os9 h1.1 h1.2
theorem o47 {a0 a1 a2 : Nat} (h1 : (a1 + 1) ≤ a0) (h2 : a2 < a0) : a0 ≤ ((((((a0 - (a1 + 1)) + a0) - 1) - a2) + a1) + 1) := Nat.le_trans (Nat.le_of_eq (Nat.sub_add_cancel h1).symm) (Nat.add_le_add_right (os4 h2) (a1 + 1))
theorem o48 {a0 a1 a2 a3 : Nat} (h1 : ((a0 - (a1 + 1)) ≤ a3) ∧ (a3 < a0)) (h2 : a3 < a2) (h3 : a2 < a0) : ((((a0 - (a1 + 1)) + a0) - 1) - a2) < a0 := os9 (Nat.le_trans h1.1 (Nat.le_of_lt h2)) h3
theorem o49 {a0 a1 a2 a3 : Nat} (h1 : (a2 + 1) ≤ a1) (h2 : a0 < a3) (h3 : a3 < a1) (h4 : ¬ (((a1 - (a2 + 1)) ≤ a0) ∧ (a0 < a1))) : a0 < ((((a1 - (a2 + 1)) + a1) - 1) - a3) := Nat.lt_of_lt_of_le (Nat.not_le.mp fun w => h4 ⟨w, Nat.lt_trans h2 h3⟩) (os4 h3)
theorem o50 {a0 a1 a2 : Nat} (_ : ((a0 - (a1 + 1)) ≤ a2) ∧ (a2 < a0)) (_ : a2 < a0) : ((((a0 - (a1 + 1)) + a0) - 1) - a2) < a0 := by grind
theorem o51 {a0 a1 : Nat} (h1 : a0 < a1) (h2 : ¬ (a0 = (a1 - 1))) : a0 < (a1 - 1) := Nat.lt_of_le_of_ne (Nat.le_sub_one_of_lt h1) h2
theorem o52 {a0 a1 : Nat} (h1 : a1 < a0) : (a0 - 1) < a0 := Nat.sub_lt (Nat.zero_lt_of_lt h1) Nat.one_pos
theorem o53 {a0 a1 a2 : Nat} (_ : (a2 + 1) ≤ ((a0 + 0) + 1)) (_ : (a2 + 1) ≤ ((a1 + 0) + 1)) (_ : a0 < (a2 + 1)) (_ : a1 < (a2 + 1)) : a0 = a1 := by lia
theorem o54 {a0 a1 a2 a3 : Nat} (_ : (a0 + (a2 + 1)) ≤ a3) (_ : a1 = a3) : a0 ≤ a1 := by lia
theorem o55 {a0 a1 : Nat} : ¬ (((a0 - (a1 + 1)) ≤ a0) ∧ (a0 < a0)) := by grind
theorem o56 {a0 a1 a2 a3 : Nat} (_ : (a0 + (a1 + 1)) ≤ a2) (_ : a3 = a2) : ((a0 + 1) + a1) ≤ a2 := by lia
theorem o57 {a0 : Nat} : (0 + 1) ≤ (a0 + 1) := by grind
theorem o58 {a0 a1 : Nat} (_ : (a0 + 1) ≤ a1) : ((a0 + 1) + 1) ≤ (a1 + 1) := by lia
theorem o59 {a0 : Nat} : (a0 + 1) ≤ ((a0 + 0) + 1) := by grind
theorem o60 {a0 : Nat} : a0 < (a0 + 1) := by grind
theorem o61 {a0 a1 a2 a3 : Nat} (_ : (a0 + 1) ≤ ((a2 + (a1 + 1)) + 1)) (_ : (a0 + 1) ≤ ((a3 + (a1 + 1)) + 1)) (_ : (a1 + 1) ≤ a0) (_ : a3 < (a0 + 1)) (_ : a2 = a0) : a0 ≤ (((a0 - 1) + a1) + 1) := by lia
theorem o62 {a0 a1 a2 : Nat} (_ : (a0 + 1) ≤ ((a1 + (a2 + 1)) + 1)) (_ : (a2 + 1) ≤ a0) (_ : a1 = a0) : (a0 - 1) < a0 := by lia
theorem o63 {a0 a1 a2 a3 : Nat} (_ : (a0 + 1) ≤ ((a1 + (a2 + 1)) + 1)) (_ : a3 = a0) : a0 ≤ ((a1 + a2) + 1) := by lia
theorem o64 {a0 a1 a2 : Nat} (_ : a0 < (a1 + 1)) (_ : a2 = a1) (_ : ¬ (a0 = a1)) : a0 < a1 := by grind
theorem o65 {a0 a1 a2 : Nat} (_ : (a0 + 1) ≤ ((a1 + (a2 + 1)) + 1)) : a0 ≤ ((a1 + a2) + 1) := by grind
theorem o66 {a0 a1 a2 : Nat} (_ : a0 < (a1 + 1)) (_ : a2 < (a1 + 1)) (_ : ¬ (a0 = a1)) (_ : ¬ (a2 = a1)) : a0 < a1 := by grind
theorem o67 {a0 a1 : Nat} (_ : a0 < a1) : (0 ≤ a0) ∧ (a0 < a1) := by grind
theorem o68 {a0 a1 a2 : Nat} (_ : a0 < a2) (_ : a2 < a1) : (0 ≤ a0) ∧ (a0 < a1) := by grind
theorem o69 {a0 a1 a2 : Nat} (h1 : a2 < a1) (h2 : a1 < a0) : (((0 + a0) - 1) - a1) < (((0 + a0) - 1) - a2) := (Nat.zero_add a0).symm ▸ Nat.sub_lt_sub_left (Nat.lt_sub_of_add_lt (Nat.lt_of_le_of_lt h1 h2)) h1
theorem o70 {a0 a1 a2 : Nat} (_ : a1 < a2) (_ : a2 < a0) : (((0 + a0) - 1) - a1) < a0 := by lia
theorem o71 {a0 a1 : Nat} (_ : 1 ≤ a1) (_ : a1 ≤ a0) : 0 < a0 := by lia
theorem o72 {a0 a1 : Nat} (_ : (a1 + 1) ≤ a0) (_ : 1 ≤ a1) : 0 < a0 := by lia
theorem o73 {a0 a1 : Nat} (h1 : (a0 + 1) ≤ a1) : ((a0 + 1) + (a1 - (a0 + 1))) ≤ a1 := Nat.le_of_eq (Nat.add_sub_cancel' h1)
theorem o74 {a0 : Nat} (_ : 1 ≤ a0) : (0 + 1) ≤ (a0 + 1) := by grind
theorem o75 {a0 a1 : Nat} (_ : (a1 + 1) ≤ a0) (_ : a1 > 0) : 1 ≤ a0 := by grind
theorem o76 {a0 a1 a2 : Nat} (h1 : (a2 + 1) ≤ a1) (h2 : a0 ≤ ((a2 + 1) + (a1 - (a2 + 1)))) : a0 ≤ a1 := Nat.add_sub_cancel' h1 ▸ h2
theorem o77 {a0 a1 : Nat} (_ : (a1 + 1) ≤ a0) (_ : ¬ (a1 > 0)) : 1 ≤ a0 := by lia
theorem o78 {a0 a1 : Nat} (_ : a0 < 1) (_ : a1 < a0) : False := by lia
theorem o79 {a0 a1 : Nat} (_ : a0 < a1) (_ : a1 > 1) (_ : ¬ (a0 = (a1 - 1))) : a0 < (a1 - 1) := by lia
theorem o80 {a0 : Nat} (_ : a0 > 1) : (a0 - 1) < a0 := by lia
theorem o81 {a0 : Nat} (_ : ¬ (a0 = 0)) : 0 < a0 := by grind
theorem o82 {a0 a1 : Nat} (_ : a0 = a1) : ¬ ((0 ≤ a0) ∧ (a0 < a1)) := by grind
theorem o83 {a0 a1 a2 : Nat} (_ : a0 < a2) (_ : a2 = a1) : (0 ≤ a0) ∧ (a0 < a1) := by lia
theorem o84 {a0 a1 a2 : Nat} (_ : a1 < a2) (_ : a2 = a0) : (((0 + a0) - 1) - a1) < a0 := by omega
theorem o85 {a0 a1 : Nat} (_ : a0 < (a1 + 1)) (_ : ¬ (a0 = a1)) : (0 ≤ a0) ∧ (a0 < a1) := by grind
theorem o86 {a0 a1 a2 : Nat} (_ : a2 < (a1 + 1)) (_ : a0 < a2) : (0 ≤ a0) ∧ (a0 < a1) := by grind
theorem o87 {a0 a1 a2 : Nat} (h1 : a2 < (a0 + 1)) (h2 : a1 < a2) : (((0 + a0) - 1) - a1) < a0 := (Nat.zero_add a0).symm ▸ Nat.lt_of_le_of_lt (Nat.sub_le _ _) (Nat.sub_lt (Nat.zero_lt_of_lt (Nat.lt_of_lt_of_le h2 (Nat.le_of_lt_succ h1))) Nat.one_pos)
theorem o88 {a0 a1 a2 : Nat} (_ : a1 < (a0 + 1)) (_ : a2 < a1) : (((0 + a0) - 1) - a1) < a0 := by lia
theorem o89 {a0 : Nat} (_ : 1 ≤ a0) (_ : ¬ (a0 > 1)) : a0 = 1 := by lia
theorem o90 {a0 : Nat} (_ : 1 < a0) : (1 + 1) ≤ a0 := by lia
theorem o91 {a0 a1 : Nat} (_ : a1 < (1 + 1)) (_ : a0 < a1) : (a0 = 0) ∧ (a1 = 1) := by lia
theorem o92 {a0 a1 a2 : Nat} (_ : a2 ≤ (a0 + 0)) (_ : a0 ≤ a2) (_ : a2 ≤ a1) : a0 ≤ a1 := by grind
theorem o93 {a0 a1 a2 : Nat} (_ : a0 ≤ (a2 + 0)) (_ : a2 ≤ a0) (_ : a2 ≤ a1) : a0 ≤ a1 := by lia
theorem o94 {a0 a1 a2 : Nat} (_ : a0 ≤ a2) (_ : a2 ≤ a1) (_ : a0 ≥ a2) : a0 ≤ a1 := by grind
theorem o95 {a0 a1 a2 : Nat} (_ : a2 ≤ a0) (_ : a2 ≤ a1) (_ : a2 ≥ a0) : a0 ≤ a1 := by grind
theorem o96 {a0 a1 : Nat} (_ : ¬ (a0 ≥ a1)) : a0 ≤ ((a0 + a1) / 2) := by lia
theorem o97 {a0 a1 a2 : Nat} (_ : a1 ≤ a2) (_ : ¬ (a0 ≥ a1)) : ((a0 + a1) / 2) ≤ a2 := by lia
theorem o98 {a0 a1 a2 : Nat} (_ : a1 ≤ (a0 + (a2 + 1))) : ((a0 + a1) / 2) ≤ (a0 + a2) := by lia
theorem o99 {a0 a1 a2 : Nat} (_ : ((a0 + a1) / 2) ≤ a2) (_ : ¬ (a2 = ((a0 + a1) / 2))) : ((a0 + a1) / 2) < a2 := by lia
theorem o100 {a0 a1 : Nat} (_ : ¬ (a0 ≥ a1)) : (((a0 + a1) / 2) + 1) ≤ a1 := by lia
theorem o101 {a0 a1 a2 : Nat} (_ : a0 ≤ (a1 + (a2 + 1))) : a0 ≤ ((((a1 + a0) / 2) + 1) + a2) := by grind
theorem o102 {a0 a1 a2 : Nat} (_ : a0 < (((a1 + a2) / 2) + 1)) (_ : ¬ (a0 = ((a1 + a2) / 2))) : a0 < ((a1 + a2) / 2) := by lia
theorem o103 {a0 a1 a2 : Nat} (_ : a1 ≤ a2) (_ : ¬ (a0 ≥ a1)) : ((a0 + a1) / 2) < a2 := by lia
theorem o104 {a0 : Nat} : a0 ≤ (0 + a0) := by grind
theorem o105 {a0 : Nat} (_ : a0 < 0) : False := by grind
theorem o106 {a0 a1 : Nat} (_ : a0 < a1) (_ : a1 ≤ a0) : False := by grind
theorem o107 {a0 a1 a2 : Nat} (_ : (a0 + (a1 + 1)) = a2) : ((a0 + 1) + a1) = a2 := by lia
theorem o108 {a0 a1 a2 : Nat} (_ : (a0 + (a2 + 1)) = a1) : a0 < a1 := by lia
theorem o109 {a0 a1 : Nat} (_ : a1 ≤ a0) : (a0 - a1) ≤ a0 := by grind
theorem o110 {a0 a1 : Nat} (h1 : a1 ≤ a0) : (a0 - (a0 - a1)) = a1 := Nat.sub_sub_self h1
theorem o111 {a0 a1 a2 : Nat} (_ : a2 < a0) (_ : a2 = a1) : ¬ (a0 = a1) := by grind
theorem o112 {a0 a1 a2 a3 : Nat} (_ : a1 < (a2 + 1)) (_ : a3 < a1) (_ : a3 = a0) : (a0 < a1) ∧ (a1 ≤ a2) := by grind
theorem o113 {a0 a1 a2 : Nat} (h1 : a2 < a1) (h2 : a2 = a0) : a0 ≤ (a1 - 1) := h2 ▸ Nat.le_sub_one_of_lt h1
theorem o114 {a0 a1 a2 : Nat} (h1 : a0 < (a1 + 1)) (h2 : a2 < a0) : (a0 - 1) < a1 := Nat.lt_of_lt_of_le (Nat.sub_lt (Nat.zero_lt_of_lt h2) Nat.one_pos) (Nat.le_of_lt_succ h1)
theorem o115 {a0 a1 a2 a3 : Nat} (_ : a1 < a3) (_ : a3 = a0) : ¬ ((a0 < a1) ∧ (a1 ≤ a2)) := by lia
theorem o116 {a0 a1 a2 : Nat} (_ : a0 < a2) (_ : a2 = a1) : a0 < a1 := by grind
theorem o117 {a0 a1 a2 a3 : Nat} (_ : (a0 < a3) ∧ (a3 ≤ a2)) (_ : a1 < (a2 + 1)) (_ : a3 < a1) : (a0 < a1) ∧ (a1 ≤ a2) := by lia
theorem o118 {a0 a1 a2 a3 : Nat} (h1 : (a2 < a0) ∧ (a0 ≤ a3)) (h2 : a0 < a1) : (a0 - 1) < (a1 - 1) := Nat.sub_lt_sub_right (Nat.lt_of_le_of_lt (Nat.zero_le _) h1.1) h2
theorem o119 {a0 a1 a2 a3 : Nat} (h1 : (a2 < a1) ∧ (a1 ≤ a3)) (h2 : a1 < (a3 + 1)) (h3 : a0 < a1) (h4 : ¬ ((a2 < a0) ∧ (a0 ≤ a3))) (h5 : ¬ (a0 = a2)) (h6 : ¬ (a1 = a2)) : a0 < (a1 - 1) := Nat.lt_sub_of_add_lt (Nat.lt_of_le_of_lt (Nat.lt_of_le_of_ne (Nat.not_lt.mp fun w => h4 ⟨w, Nat.le_trans (Nat.le_of_lt h3) h1.2⟩) h5) h1.1)
theorem o120 {a0 a1 a2 a3 : Nat} (_ : a0 < (a1 + 1)) (_ : a2 < a0) (_ : a3 ≤ a1) (_ : ¬ ((a3 < a2) ∧ (a2 ≤ a1))) (_ : ¬ ((a3 < a0) ∧ (a0 ≤ a1))) (_ : ¬ (a0 = a3)) : a0 < a1 := by lia
theorem o121 {a0 : Nat} (_ : 1 ≤ a0) : (max a0 1) = a0 := by lia
theorem o122 {a0 a1 : Nat} (_ : (max a0 1) = a0) (_ : a0 < a1) : (a0 + (a1 - a0)) = a1 := by grind
theorem o123 {a0 a1 : Nat} (_ : a0 ≤ a1) (_ : ¬ (a0 < a1)) : a0 = a1 := by lia
theorem o124 {a0 a1 a2 : Nat} (_ : a0 < 64) (_ : a1 = a0) (_ : a2 = a0) : a0 ≤ (16777216 + 1) := by lia
theorem o125 {a0 : Nat} (_ : a0 < 64) : a0 ≤ 16777216 := by grind
theorem o126 {a0 : Nat} (_ : a0 < 64) (_ : ¬ (a0 < 2)) : 2 ≤ a0 := by grind
theorem o127 {a0 a1 a2 : Nat} (_ : ((a0 + 20) + a2) < a1) : (a0 + 10) < a1 := by grind
theorem o128 {a0 a1 : Nat} (_ : a1 < 64) (_ : a1 = a0) : a0 < 64 := by lia
theorem o129 {a0 a1 : Nat} (_ : a1 < 64) (_ : a1 = a0) : a0 ≤ 16777216 := by lia
theorem o130 {a0 a1 a2 a3 : Nat} (_ : a0 < 2) (_ : a1 < 64) (_ : a2 < a3) (_ : a3 < a1) (_ : a1 = a0) : False := by lia
theorem o131 {a0 a1 : Nat} (_ : 2 ≤ a1) (_ : a0 < 64) (_ : a0 = a1) : 0 < a0 := by lia
theorem o132 {a0 a1 : Nat} (_ : (a0 + 100) < a1) : (((a0 + 1) + 1) + 30) < a1 := by lia
theorem o133 {a0 a1 a2 : Nat} (_ : 2 ≤ a1) (_ : a2 < 64) (_ : a2 = a1) (_ : a0 = a1) : 0 < a0 := by grind
theorem o134 {a0 a1 a2 : Nat} (_ : 2 ≤ a1) (_ : a0 < 64) (_ : a0 = a1) (_ : a2 = a1) : 0 < a0 := by grind
theorem o135 {a0 a1 : Nat} (_ : (a0 + 30) < a1) : ((a0 + 20) + 5) < a1 := by lia
theorem o136 {a0 a1 : Nat} (_ : ¬ (a1 < a0)) : a0 ≤ a1 := by grind
theorem o137 {a0 a1 a2 : Nat} (_ : a1 < a0) (_ : a2 = ((a0 + 1) - a1)) : ((a0 + 1) - (a1 + 1)) < a2 := by grind
theorem o138 {a0 a1 : Nat} (_ : (a0 - a1) = 0) (_ : ¬ (a0 < a1)) : a0 = a1 := by grind
theorem o139 {a0 a1 a2 : Nat} (_ : a0 = a2) (_ : a1 = a2) : a0 = a1 := by grind
theorem o140 {a0 a1 a2 : Nat} (_ : ((a0 + (5 * a1)) + 150) < a2) : (((a0 + 1) + (5 * a1)) + 147) < a2 := by lia
theorem o141 {a0 a1 a2 : Nat} (_ : ((a0 + (20 * a1)) + 100) < a2) : (((a0 + 1) + (20 * a1)) + 90) < a2 := by lia
theorem o142 {a0 a1 : Nat} : (a0 - a1) ≤ a0 := by lia
theorem o143 {a0 a1 : Nat} : (min a0 a1) ≤ a1 := by lia
theorem o144 {x0 : Int} (_ : ¬ ((0 : Int) ≤ x0)) : 1 ≤ (Int.natAbs x0) := by grind
theorem o145 {x0 : Int} (_ : ¬ ((0 : Int) ≤ x0)) : (- (((Int.natAbs x0) : Nat) : Int)) = x0 := by grind
theorem o146 {a0 a1 a2 : Nat} (_ : ((a0 + (20 * a2)) + 100) < a1) : (a0 + 100) < a1 := by grind
theorem o147 {a0 a1 a2 a3 : Nat} (_ : a2 = a3) (_ : a2 = a0) (_ : a2 ≤ a1) : a0 ≤ a1 := by grind
theorem o148 {a0 : Nat} : a0 < (a0 + 4) := by grind
theorem o149 {a0 : Nat} : (a0 + 1) < (a0 + 4) := by grind
theorem o150 {a0 a1 : Nat} : ((a0 + 1) + a1) = (a0 + (a1 + 1)) := by grind
theorem o151 {a0 a1 : Nat} (_ : ((a0 : Nat) : Int) < ((a1 : Nat) : Int)) : a0 < a1 := by grind
theorem o152 {a0 a1 a2 : Nat} (_ : ((a0 + (20 * (a2 + 1))) + 90) < a1) : ((a0 + 3) + 100) < a1 := by lia
theorem o153 {a0 a1 : Nat} : (a0 + (a1 + 1)) = ((a0 + 1) + a1) := by grind
theorem o154 {a0 : Nat} (_ : a0 ≤ 63) : a0 ≤ 16777216 := by lia
theorem o155 {a0 a1 : Nat} (_ : a0 ≤ a1) : (a0 + (a1 - a0)) = a1 := by grind
theorem o156 {a0 : Nat} : (0 : Int) ≤ ((a0 : Nat) : Int) := by grind
theorem o157 {a0 a1 : Nat} (_ : a0 < a1) : ((a0 : Nat) : Int) < ((a1 : Nat) : Int) := by lia
theorem o158 {a0 a1 : Nat} (h1 : 0 = (a1 - a0)) (h2 : a0 ≤ a1) : a0 = a1 := Nat.le_antisymm h2 (Nat.sub_eq_zero_iff_le.mp h1.symm)
theorem o159 {a0 a1 a2 : Nat} (_ : a0 = a2) (_ : ¬ (a1 < a0)) : a0 ≤ a1 := by grind
theorem o160 {a0 a1 a2 : Nat} (h1 : (a0 - a2) = 0) (h2 : a2 = a1) (h3 : ¬ (a0 < a2)) : a0 = a1 := (Nat.le_antisymm (Nat.sub_eq_zero_iff_le.mp h1) (Nat.not_lt.mp h3)).trans h2
theorem o161 {a0 a1 a2 a3 : Nat} (_ : a0 = (a2 + a3)) : (a0 + a1) = ((a2 + a1) + a3) := by grind
theorem o162 {a0 a1 a2 : Nat} : (((a0 + a1) + a2) + 1) = (a0 + (a1 + (a2 + 1))) := by grind
theorem o163 {a0 : Nat} (_ : a0 ≤ 1000) : (- (1073741824 : Int)) ≤ ((a0 : Nat) : Int) := by grind
theorem o164 {a0 : Nat} (_ : a0 ≤ 1000) : ((a0 : Nat) : Int) ≤ (1073741824 : Int) := by lia
theorem o165 {a0 : Nat} : (Int.toNat ((a0 : Nat) : Int)) = a0 := by grind
theorem o166 {a0 a1 : Nat} (_ : a0 = a1) : a0 ≤ a1 := by lia
theorem o167 {a0 a1 a2 a3 a4 a5 : Nat} (_ : a2 = ((a3 + a4) + 1)) (_ : a5 = a0) (_ : a5 ≤ a1) : a0 ≤ a1 := by grind
theorem o168 {x0 x1 : Int} (_ : x0 < x1) : x0 ≤ (x1 - (1 : Int)) := by lia
theorem o169 {a0 a1 : Nat} (_ : ¬ (((a1 : Nat) : Int) < ((a0 : Nat) : Int))) : a0 ≤ a1 := by lia
theorem o170 {a0 : Nat} (_ : 0 < a0) : (0 : Int) < ((a0 : Nat) : Int) := by lia
theorem o171 {x0 : Int} (_ : (0 : Int) ≤ x0) : x0 = (((Int.toNat x0) : Nat) : Int) := by lia
theorem o172 {a0 : Nat} {x0 : Int} (_ : (0 : Int) ≤ x0) (_ : x0 < ((a0 : Nat) : Int)) : (Int.toNat x0) < a0 := by lia
theorem o173 {a0 : Nat} (_ : a0 < 3) : (0 : Int) ≤ ((a0 : Nat) : Int) := by grind
theorem o174 {a0 : Nat} (_ : a0 < 3) : ((a0 : Nat) : Int) ≤ (1000000000 : Int) := by lia
theorem o175 {a0 : Nat} (_ : a0 < 12) : (0 : Int) ≤ ((a0 : Nat) : Int) := by grind
theorem o176 {a0 : Nat} (_ : a0 < 12) : ((a0 : Nat) : Int) ≤ (1000000000 : Int) := by lia
theorem o177 {a0 : Nat} (_ : a0 < 1000000001) : (0 : Int) ≤ ((a0 : Nat) : Int) := by grind
theorem o178 {a0 : Nat} (_ : a0 < 1000000001) : ((a0 : Nat) : Int) ≤ (1000000000 : Int) := by lia
theorem o179 {a0 : Nat} (_ : a0 < 2) : (0 : Int) ≤ ((1000000000 : Int) - ((a0 : Nat) : Int)) := by lia
theorem o180 {a0 : Nat} (_ : a0 < 2) : ((1000000000 : Int) - ((a0 : Nat) : Int)) ≤ (1000000000 : Int) := by grind
theorem o181 {a0 : Nat} (_ : a0 ≤ 900) : ((- (18446744073709551616 : Int)) < ((a0 : Nat) : Int)) ∧ (((a0 : Nat) : Int) < (18446744073709551616 : Int)) := by lia
theorem o182 {a0 : Nat} : (((a0 : Nat) : Int) + (3 : Int)) = (((a0 + 3) : Nat) : Int) := by grind
theorem o183 {a0 a1 : Nat} (_ : (((a0 : Nat) : Int) + (3 : Int)) < ((a1 : Nat) : Int)) : (a0 + 3) < a1 := by lia
theorem o184 {a0 : Nat} (_ : a0 ≤ 30) : ((- (1073741824 : Int)) ≤ ((a0 : Nat) : Int)) ∧ (((a0 : Nat) : Int) ≤ (1073741824 : Int)) := by lia
theorem o185 {a0 a1 : Nat} (_ : ((a0 : Nat) : Int) < ((a1 : Nat) : Int)) (_ : a1 ≤ 30) : a0 ≤ 30 := by lia
theorem o186 {a0 a1 a2 a3 : Nat} (_ : ((a1 : Nat) : Int) < ((a3 : Nat) : Int)) (_ : a2 = 16777216) (_ : a0 ≤ (30 * 30)) (_ : a3 ≤ 30) : (a0 + a1) < a2 := by lia
theorem o187 {a0 a1 : Nat} (_ : ((a0 : Nat) : Int) < ((a1 : Nat) : Int)) : (a0 + 1) ≤ a1 := by grind
theorem o188 {a0 : Nat} (_ : 1 ≤ a0) (_ : a0 ≤ 30) : (1 : Int) ≤ ((a0 : Nat) : Int) := by grind
theorem o189 {a0 : Nat} (_ : 1 ≤ a0) (_ : a0 ≤ 30) : ((a0 : Nat) : Int) ≤ (30 : Int) := by lia
theorem o190 {a0 a1 a2 : Nat} (_ : (1 ≤ a1) ∧ ((a1 ≤ 30) ∧ ((1 ≤ a0) ∧ (a0 ≤ 30)))) (_ : a2 = a0) : 1 ≤ a0 := by lia
theorem o191 {a0 a1 a2 : Nat} (_ : (1 ≤ a1) ∧ ((a1 ≤ 30) ∧ ((1 ≤ a0) ∧ (a0 ≤ 30)))) (_ : a2 = a0) : a0 ≤ 30 := by lia
theorem o192 {a0 a1 : Nat} (_ : (1 ≤ a0) ∧ ((a0 ≤ 30) ∧ ((1 ≤ a1) ∧ (a1 ≤ 30)))) : 0 < a0 := by lia
theorem o193 {a0 a1 a2 : Nat} (_ : (1 ≤ a1) ∧ ((a1 ≤ 30) ∧ ((1 ≤ a2) ∧ (a2 ≤ 30)))) (_ : a0 = a1) : 0 < a0 := by grind
theorem o194 {a0 a1 a2 : Nat} (_ : (1 ≤ a0) ∧ ((a0 ≤ 30) ∧ ((1 ≤ a1) ∧ (a1 ≤ 30)))) (_ : a2 = a0) : a0 < 16777216 := by lia
theorem o195 {a0 a1 a2 : Nat} (_ : a0 < a1) : a0 ≠ (a1 + a2) := by lia
theorem o196 {a0 a1 a2 : Nat} (_ : a0 < a1) : a0 ≠ (a1 + (1 * a2)) := by grind
theorem o197 {a0 a1 a2 : Nat} (_ : a1 = ((a0 + a2) + 1)) : a0 ≤ a1 := by lia
theorem o198 {a0 a1 a2 a3 : Nat} (_ : a1 = ((a0 + a3) + 1)) : a0 ≤ (a1 + a2) := by lia
theorem o199 {a0 a1 a2 a3 : Nat} (_ : a0 < a2) (_ : a1 = ((a2 + a3) + 1)) : a0 ≠ a1 := by grind
theorem o200 {a0 a1 : Nat} (_ : ¬ (a1 < a0)) : (a0 + (a1 - a0)) = a1 := by grind
theorem o201 {a0 a1 : Nat} (_ : a1 = 16777216) (_ : a0 ≤ 30) : a0 < a1 := by lia
theorem o202 {a0 a1 : Nat} : a0 ≤ (a0 + a1) := by grind
theorem o203 {a0 a1 : Nat} (_ : a1 = 16777216) (_ : a0 ≤ (30 * 30)) : a0 < a1 := by lia
theorem o204 {a0 : Nat} (_ : a0 < 8) : (0 : Int) ≤ ((a0 : Nat) : Int) := by grind
theorem o205 {a0 a1 : Nat} (_ : a0 < 4) (_ : a1 < 5) : (1 ≤ (1 + a0)) ∧ (((1 + a0) ≤ 30) ∧ ((1 ≤ (1 + a1)) ∧ ((1 + a1) ≤ 30))) := by lia
theorem o206 {a0 : Nat} (_ : a0 < 4) : (1 + a0) ≤ 4 := by lia
theorem o207 {a0 : Nat} (_ : a0 < 5) : (1 + a0) ≤ 5 := by lia
theorem o208 {a0 : Nat} (_ : a0 ≤ (4 * 5)) : a0 ≤ 63 := by grind
theorem o209 {a0 a1 : Nat} (_ : (1 ≤ a1) ∧ ((a1 ≤ 30) ∧ ((1 ≤ a0) ∧ (a0 ≤ 30)))) : a0 ≤ 1000 := by lia
theorem o210 {a0 a1 a2 : Nat} (_ : (1 ≤ a2) ∧ ((a2 ≤ 30) ∧ ((1 ≤ a0) ∧ (a0 ≤ 30)))) (_ : a1 = 16777216) : a0 < a1 := by lia
theorem o211 {a0 a1 a2 : Nat} (_ : (1 ≤ a1) ∧ ((a1 ≤ 30) ∧ ((1 ≤ a2) ∧ (a2 ≤ 30)))) (_ : a0 < a1) : a0 ≤ 29 := by lia
theorem o212 {a0 a1 : Nat} (_ : (1 ≤ a1) ∧ ((a1 ≤ 30) ∧ ((1 ≤ a0) ∧ (a0 ≤ 30)))) : a0 ≤ 30 := by grind
theorem o213 {a0 a1 a2 a3 : Nat} (_ : (1 ≤ a2) ∧ ((a2 ≤ 30) ∧ ((1 ≤ a3) ∧ (a3 ≤ 30)))) (_ : a1 < a3) (_ : a0 ≤ (29 * 30)) : (a0 + a1) ≤ 900 := by lia
theorem o214 {a0 a1 a2 : Nat} (_ : (1 ≤ a1) ∧ ((a1 ≤ 30) ∧ ((1 ≤ a2) ∧ (a2 ≤ 30)))) (_ : a0 < a1) : ((- (18446744073709551616 : Int)) < ((a0 : Nat) : Int)) ∧ (((a0 : Nat) : Int) < (18446744073709551616 : Int)) := by lia
theorem o215 {a0 a1 a2 : Nat} (_ : a1 = 16777216) (_ : a0 = a2) (_ : a2 ≤ 1000) : a0 < a1 := by grind
theorem o216 {a0 a1 : Nat} (_ : a0 < 1000) (_ : a1 = 16777216) : a0 < a1 := by lia
theorem o217 {a0 a1 : Nat} : (((a0 + 1) + (2 * a1)) + 1) = ((a0 + 2) + (2 * a1)) := by grind
theorem o218 {a0 a1 : Nat} : a0 ≠ ((a0 + 2) + (2 * a1)) := by grind
theorem o219 {a0 a1 : Nat} : ((a0 + 2) + (2 * a1)) = (((a0 + 1) + (2 * a1)) + 1) := by grind
theorem o220 {a0 a1 : Nat} (_ : (1 ≤ a0) ∧ ((a0 ≤ 30) ∧ ((1 ≤ a1) ∧ (a1 ≤ 30)))) : (- (1073741824 : Int)) ≤ ((a0 : Nat) : Int) := by grind
theorem o221 {a0 a1 : Nat} (_ : (1 ≤ a0) ∧ ((a0 ≤ 30) ∧ ((1 ≤ a1) ∧ (a1 ≤ 30)))) : ((a0 : Nat) : Int) ≤ (1073741824 : Int) := by lia
theorem o222 {a0 a1 a2 : Nat} (_ : ((a0 : Nat) : Int) < ((a1 : Nat) : Int)) (_ : (1 ≤ a1) ∧ ((a1 ≤ 30) ∧ ((1 ≤ a2) ∧ (a2 ≤ 30)))) : a0 < 1000 := by grind
theorem o223 {a0 a1 a2 : Nat} (_ : (1 ≤ a1) ∧ ((a1 ≤ 30) ∧ ((1 ≤ a0) ∧ (a0 ≤ 30)))) (_ : a2 = a0) : a0 ≤ 1000 := by grind
theorem o224 {a0 a1 : Nat} : ((((a0 + 1) + (2 * a1)) + 1) + 1) = ((a0 + 1) + (2 * (a1 + 1))) := by grind
theorem o225 {a0 a1 a2 a3 : Nat} (_ : (1 ≤ a1) ∧ ((a1 ≤ 30) ∧ ((1 ≤ a2) ∧ (a2 ≤ 30)))) (_ : 0 < a3) (_ : a0 = a2) : 0 < a0 := by grind
theorem o226 {a0 a1 : Nat} {x0 x1 : Int} (_ : ((0 : Int) ≤ x0) ∧ ((x0 < ((a0 : Nat) : Int)) ∧ (((0 : Int) ≤ x1) ∧ (x1 < ((a1 : Nat) : Int))))) : x0 = (((Int.toNat x0) : Nat) : Int) := by lia
theorem o227 {a0 a1 : Nat} {x0 x1 : Int} (_ : ((0 : Int) ≤ x1) ∧ ((x1 < ((a0 : Nat) : Int)) ∧ (((0 : Int) ≤ x0) ∧ (x0 < ((a1 : Nat) : Int))))) : x0 = (((Int.toNat x0) : Nat) : Int) := by grind
theorem o228 {a0 a1 : Nat} {x0 x1 : Int} (_ : ((0 : Int) ≤ x0) ∧ ((x0 < ((a0 : Nat) : Int)) ∧ (((0 : Int) ≤ x1) ∧ (x1 < ((a1 : Nat) : Int))))) : (Int.toNat x0) < a0 := by grind
theorem o229 {a0 a1 : Nat} {x0 x1 : Int} (_ : ((0 : Int) ≤ x1) ∧ ((x1 < ((a1 : Nat) : Int)) ∧ (((0 : Int) ≤ x0) ∧ (x0 < ((a0 : Nat) : Int))))) : (Int.toNat x0) < a0 := by omega
theorem o230 {a0 a1 a2 a3 : Nat} (_ : a0 < a1) (_ : a2 < a3) : ((0 : Int) ≤ ((a0 : Nat) : Int)) ∧ ((((a0 : Nat) : Int) < ((a1 : Nat) : Int)) ∧ (((0 : Int) ≤ ((a2 : Nat) : Int)) ∧ (((a2 : Nat) : Int) < ((a3 : Nat) : Int)))) := by lia
theorem o231 {a0 : Nat} (_ : a0 < 5) : (0 : Int) ≤ ((a0 : Nat) : Int) := by grind
theorem o232 {a0 a1 a2 : Nat} (_ : (1 ≤ a0) ∧ ((a0 ≤ 30) ∧ ((1 ≤ a1) ∧ (a1 ≤ 30)))) (_ : a2 = a0) : (- (1073741824 : Int)) ≤ ((a0 : Nat) : Int) := by grind
theorem o233 {a0 a1 a2 : Nat} (_ : (1 ≤ a0) ∧ ((a0 ≤ 30) ∧ ((1 ≤ a1) ∧ (a1 ≤ 30)))) (_ : a2 = a0) : ((a0 : Nat) : Int) ≤ (1073741824 : Int) := by grind
theorem o234 {a0 a1 a2 : Nat} (_ : ((a0 : Nat) : Int) < ((a1 : Nat) : Int)) (_ : a2 = a1) : a0 < a1 := by grind
theorem o235 {a0 a1 : Nat} (_ : (1 ≤ a1) ∧ ((a1 ≤ 30) ∧ ((1 ≤ a0) ∧ (a0 ≤ 30)))) : (- (1073741824 : Int)) ≤ ((a0 : Nat) : Int) := by lia
theorem o236 {a0 a1 : Nat} (_ : (1 ≤ a1) ∧ ((a1 ≤ 30) ∧ ((1 ≤ a0) ∧ (a0 ≤ 30)))) : ((a0 : Nat) : Int) ≤ (1073741824 : Int) := by grind
theorem o237 {a0 a1 a2 a3 : Nat} (_ : ((a0 : Nat) : Int) < ((a1 : Nat) : Int)) (_ : (1 ≤ a1) ∧ ((a1 ≤ 30) ∧ ((1 ≤ a2) ∧ (a2 ≤ 30)))) (_ : a3 = a1) : a0 ≤ 29 := by lia
theorem o238 {a0 a1 : Nat} (_ : (1 ≤ a0) ∧ ((a0 ≤ 30) ∧ ((1 ≤ a1) ∧ (a1 ≤ 30)))) : a0 < 16777216 := by grind
theorem o239 {a0 a1 a2 a3 a4 a5 a6 : Nat} (_ : (1 ≤ a2) ∧ ((a2 ≤ 30) ∧ ((1 ≤ a3) ∧ (a3 ≤ 30)))) (_ : a4 < a5) (_ : a4 = ((a0 + a6) + 1)) (_ : a1 = (a5 + a2)) : a0 ≤ a1 := by lia
theorem o240 {a0 a1 a2 a3 : Nat} (_ : a2 < a1) (_ : a2 = ((a0 + a3) + 1)) : a0 ≤ a1 := by lia
theorem o241 {a0 a1 a2 : Nat} (_ : a1 < 1000) (_ : a2 < a1) (_ : a0 ≤ a2) : a0 < 1000 := by grind
theorem o242 {a0 a1 : Nat} {x0 x1 : Int} (_ : ((0 : Int) ≤ x0) ∧ ((x0 < ((a0 : Nat) : Int)) ∧ (((0 : Int) ≤ x1) ∧ (x1 < ((a1 : Nat) : Int))))) : (0 : Int) ≤ x0 := by grind
theorem o243 {a0 a1 : Nat} {x0 x1 : Int} (_ : ((0 : Int) ≤ x0) ∧ ((x0 < ((a0 : Nat) : Int)) ∧ (((0 : Int) ≤ x1) ∧ (x1 < ((a1 : Nat) : Int))))) : x0 ≤ (((a0 : Nat) : Int) - (1 : Int)) := by grind
theorem o244 {a0 a1 : Nat} {x0 x1 : Int} (_ : ((0 : Int) ≤ x1) ∧ ((x1 < ((a0 : Nat) : Int)) ∧ (((0 : Int) ≤ x0) ∧ (x0 < ((a1 : Nat) : Int))))) : (0 : Int) ≤ x0 := by omega
theorem o245 {a0 a1 : Nat} {x0 x1 : Int} (_ : ((0 : Int) ≤ x1) ∧ ((x1 < ((a1 : Nat) : Int)) ∧ (((0 : Int) ≤ x0) ∧ (x0 < ((a0 : Nat) : Int))))) : x0 ≤ (((a0 : Nat) : Int) - (1 : Int)) := by grind
theorem o246 {a0 a1 : Nat} {x0 x1 : Int} (_ : (((0 : Int) ≤ x0) ∧ (x0 ≤ (((a0 : Nat) : Int) - (1 : Int)))) ∧ (((0 : Int) ≤ x1) ∧ (x1 ≤ (((a1 : Nat) : Int) - (1 : Int))))) : ((0 : Int) ≤ x0) ∧ ((x0 < ((a0 : Nat) : Int)) ∧ (((0 : Int) ≤ x1) ∧ (x1 < ((a1 : Nat) : Int)))) := by grind
theorem o247 {a0 : Nat} (_ : a0 ≠ 2) : ¬ (((a0 : Nat) : Int) = (2 : Int)) := by lia
theorem o248 {a0 a1 : Nat} (_ : a1 < 1000) (_ : a0 ≤ a1) : a0 < 16777216 := by lia
theorem o249 {a0 a1 : Nat} (_ : (1 ≤ a1) ∧ ((a1 ≤ 30) ∧ ((1 ≤ a0) ∧ (a0 ≤ 30)))) : 0 < a0 := by grind
theorem o250 {a0 a1 a2 : Nat} (_ : (a2 + a0) = (a2 + a1)) : a0 = a1 := by grind
theorem o251 {a0 : Nat} (_ : 1 ≤ a0) : 0 < a0 := by lia
theorem o252 {a0 a1 a2 : Nat} (_ : a0 < a2) (_ : a1 = a2) : ((a0 : Nat) : Int) < ((a1 : Nat) : Int) := by lia
theorem o253 {a0 a1 : Nat} {x0 x1 : Int} (_ : ¬ ((0 : Int) ≤ x0)) : ¬ (((0 : Int) ≤ x0) ∧ ((x0 < ((a0 : Nat) : Int)) ∧ (((0 : Int) ≤ x1) ∧ (x1 < ((a1 : Nat) : Int))))) := by lia
theorem o254 {a0 a1 : Nat} {x0 x1 : Int} (_ : ¬ (x0 < ((a0 : Nat) : Int))) : ¬ (((0 : Int) ≤ x0) ∧ ((x0 < ((a0 : Nat) : Int)) ∧ (((0 : Int) ≤ x1) ∧ (x1 < ((a1 : Nat) : Int))))) := by omega
theorem o255 {a0 a1 : Nat} {x0 x1 : Int} (_ : ¬ ((0 : Int) ≤ x1)) : ¬ (((0 : Int) ≤ x0) ∧ ((x0 < ((a0 : Nat) : Int)) ∧ (((0 : Int) ≤ x1) ∧ (x1 < ((a1 : Nat) : Int))))) := by lia
theorem o256 {a0 : Nat} (_ : a0 < 1000) : a0 < 16777216 := by lia
theorem o257 {x0 x1 : Int} (_ : x0 = x1) : ¬ (x0 < x1) := by lia
theorem o258 {x0 x1 x2 x3 : Int} (_ : (x1 < x0) ∨ ((x1 = x0) ∧ (x3 < x2))) : ¬ ((x0 < x1) ∨ ((x0 = x1) ∧ (x2 < x3))) := by lia
theorem o259 {x0 x1 x2 x3 x4 x5 : Int} (_ : ¬ ((x4 < x1) ∨ ((x4 = x1) ∧ (x5 < x3)))) (_ : ¬ ((x0 < x4) ∨ ((x0 = x4) ∧ (x2 < x5)))) : ¬ ((x0 < x1) ∨ ((x0 = x1) ∧ (x2 < x3))) := by grind
theorem o260 {x0 x1 x2 x3 : Int} (_ : ¬ ((x0 < x1) ∨ ((x0 = x1) ∧ (x2 < x3)))) (_ : ¬ ((x1 < x0) ∨ ((x1 = x0) ∧ (x3 < x2)))) : x0 = x1 := by omega
theorem o261 {x0 x1 x2 x3 : Int} (_ : ¬ ((x2 < x3) ∨ ((x2 = x3) ∧ (x0 < x1)))) (_ : ¬ ((x3 < x2) ∨ ((x3 = x2) ∧ (x1 < x0)))) : x0 = x1 := by grind
theorem o262 {x0 x1 : Int} (_ : (x0 < x0) ∨ ((x0 = x0) ∧ (x1 < x1))) : False := by grind
theorem o263 {a0 : Nat} (_ : a0 ≤ 63) : a0 < 64 := by lia
theorem o264 {a0 : Nat} (_ : a0 ≤ 63) : a0 < 1000 := by lia
theorem o265 {a0 a1 : Nat} (_ : (1 ≤ a0) ∧ ((a0 ≤ 30) ∧ ((1 ≤ a1) ∧ (a1 ≤ 30)))) : a0 ≤ 30 := by grind
theorem o266 {a0 : Nat} (_ : a0 < 9) : (0 : Int) ≤ ((a0 : Nat) : Int) := by grind
theorem o267 {a0 : Nat} (_ : ((a0 : Nat) : Int) > (0 : Int)) : 0 < a0 := by grind
theorem o268 {a0 : Nat} (_ : ((a0 : Nat) : Int) > (0 : Int)) : ¬ (((a0 : Nat) : Int) = (0 : Int)) := by grind
theorem o269 {a0 : Nat} : ¬ ((((a0 : Nat) : Int) + (2 : Int)) = (0 : Int)) := by grind
theorem o270 {a0 : Nat} (_ : (a0 + 2) < 1000) : a0 < 1000 := by grind
theorem o271 {a0 : Nat} (_ : (a0 + 2) < 1000) : (a0 + 1) < 1000 := by lia
theorem o272 {a0 a1 : Nat} : (a0 + (2 * (a1 + 1))) = ((a0 + (2 * a1)) + 2) := by grind
theorem o273 {a0 : Nat} : (a0 - (a0 - 20)) ≤ 20 := Nat.sub_le_of_le_add (Nat.add_comm _ _ ▸ Nat.le_add_of_sub_le (Nat.le_refl _))
theorem o274 {a0 a1 a2 : Nat} (_ : a1 < a2) (_ : a0 ≤ 100) (_ : a2 ≤ 20) : ((a0 + (2 * a1)) + 2) < 1000 := by grind
theorem o275 {a0 a1 a2 : Nat} (_ : a0 ≤ a1) : a0 ≤ (a1 + (1 * a2)) := by lia
theorem o276 {a0 a1 a2 a3 a4 a5 a6 a7 a8 : Nat} (_ : (1 ≤ a0) ∧ ((a0 ≤ 30) ∧ ((1 ≤ a1) ∧ (a1 ≤ 30)))) (_ : (a2 < a3) ∨ ((a4 ≤ a2) ∧ (a2 < a5))) (_ : (a6 ≤ a2) ∧ (a2 < a7)) (_ : a8 < a5) (_ : a4 = ((a3 + a0) + 1)) (_ : a6 = (a5 + 1)) (_ : a4 ≤ a8) : False := by lia
theorem o277 {a0 a1 a2 a3 a4 a5 a6 a7 a8 a9 : Nat} (_ : ((a2 ≤ a0) ∧ (a0 < a3)) ∨ ((a0 < a4) ∨ ((a5 ≤ a0) ∧ (a0 < a6)))) (_ : (1 ≤ a7) ∧ ((a7 ≤ 30) ∧ ((1 ≤ a8) ∧ (a8 ≤ 30)))) (_ : a9 < a6) (_ : a5 = ((a4 + a7) + 1)) (_ : a2 = (a6 + 1)) (_ : a5 ≤ a9) (_ : a2 ≤ a3) (_ : a3 ≤ a1) : a0 < a1 := by lia
theorem o278 {a0 a1 a2 a3 a4 a5 a6 a7 : Nat} (_ : ((a0 ≤ a1) ∧ (a1 < a2)) ∨ ((a3 ≤ a1) ∧ (a1 < a4))) (_ : (a5 ≤ a1) ∧ (a1 < a6)) (_ : a7 < a3) (_ : a4 = (a3 + 1)) (_ : a2 ≤ a7) (_ : a4 ≤ a5) : False := by grind
theorem o279 {a0 a1 a2 a3 a4 a5 a6 a7 : Nat} (_ : ((a2 ≤ a0) ∧ (a0 < a1)) ∨ (((a3 ≤ a0) ∧ (a0 < a4)) ∨ ((a5 ≤ a0) ∧ (a0 < a6)))) (_ : a7 < a5) (_ : a6 = (a5 + 1)) (_ : a4 ≤ a7) (_ : a6 ≤ a2) (_ : a2 ≤ a1) : a0 < a1 := by grind
theorem o280 {a0 a1 a2 a3 : Nat} (_ : (1 ≤ a1) ∧ ((a1 ≤ 30) ∧ ((1 ≤ a2) ∧ (a2 ≤ 30)))) (_ : a3 = ((a0 + a1) + 1)) : a0 ≤ (a0 + a1) := by grind
theorem o281 {a0 a1 a2 : Nat} (_ : a2 = ((a0 + a1) + 1)) : (a0 + a1) < a2 := by lia
theorem o282 {a0 a1 : Nat} : a0 ≤ (a0 + (1 * a1)) := by grind
theorem o283 {a0 a1 a2 a3 : Nat} (_ : a1 < a3) (_ : a2 = ((a0 + a3) + 1)) : (a0 + (1 * a1)) < a2 := by lia
theorem o284 {a0 a1 : Nat} (_ : a1 = (a0 + 1)) : a0 < a1 := by lia
theorem o285 {a0 a1 a2 a3 a4 a5 a6 a7 a8 a9 : Nat} (_ : ((a0 ≤ a1) ∧ (a1 < a2)) ∨ (((a3 ≤ a1) ∧ (a1 < a4)) ∨ ((a5 ≤ a1) ∧ (a1 < a6)))) (_ : ((a6 ≤ a1) ∧ (a1 < a0)) ∨ ((a1 < a3) ∨ ((a4 ≤ a1) ∧ (a1 < a5)))) (_ : (1 ≤ a7) ∧ ((a7 ≤ 30) ∧ ((1 ≤ a8) ∧ (a8 ≤ 30)))) (_ : a9 < a5) (_ : a4 = ((a3 + a7) + 1)) (_ : a6 = (a5 + 1)) (_ : a4 ≤ a9) (_ : a6 ≤ a0) : False := by grind
theorem hideG {P : Prop} (h : ∀ G : Prop, (P → G) → G) : P := h P id
open PySem
noncomputable section
inductive Val where
  | none
  | bool (b : Bool)
  | int (i : Int)
  | str (s : Str)
  | tup (vs : List Val)
  | loc (l : Nat)
  | script (ns : List Int)
  | rng (n : Int)
  | exc (c : Nat)
noncomputable def sames (a b : List Val) : Bool := @decide (a = b) (Classical.propDecidable _)
theorem sames_eq (a b : List Val) (h : sames a b = true) : a = b := @of_decide_eq_true _ (Classical.propDecidable _) h
theorem sames_refl (a : List Val) : sames a a = true := @decide_eq_true _ (Classical.propDecidable _) rfl
noncomputable abbrev Key := Int × Int
inductive HObj where
  | list (xs : List Val)
  | dict (es : List (Key × Val))
  | inst (c : Nat) (fs : List (Nat × Val))
  | hid
noncomputable abbrev Hp := List HObj
inductive Res (α : Type) where
  | ok (a : α) (H : Hp)
  | exc (c : Nat) (H : Hp)
  | bad
noncomputable def M (α : Type) := Hp → Res α
namespace M
noncomputable def ret {α : Type} (a : α) : M α := fun H => .ok a H
noncomputable def bnd {α β : Type} (m : M α) (f : α → M β) : M β := fun H =>
  match m H with
  | .ok a H' => f a H'
  | .exc c H' => .exc c H'
  | .bad => .bad
noncomputable def bad {α : Type} : M α := fun _ => .bad
noncomputable def raise {α : Type} (c : Nat) : M α := fun H => .exc c H
noncomputable def ofOpt {α : Type} : Option α → M α
  | some a => ret a
  | none => bad
noncomputable def look {α : Type} (f : Hp → Option α) : M α := fun H =>
  match f H with
  | some a => .ok a H
  | none => .bad
noncomputable def quiet {α : Type} (m : M α) : M α := fun H =>
  match m H with
  | .exc _ _ => .bad
  | r => r
noncomputable def alloc (o : HObj) : M Val := fun H => .ok (.loc H.length) (H ++ [o])
noncomputable def put (l : Nat) (o : HObj) : M Unit := fun H => .ok () (H.set l o)
end M
theorem bnd_ok {α β : Type} {m : M α} {f : α → M β} {H H' : Hp} {a : α} (h : m H = .ok a H') : (m.bnd f) H = f a H' := by
  unfold M.bnd; rw [h]
theorem bnd_exc {α β : Type} {m : M α} {f : α → M β} {H H' : Hp} {c : Nat} (h : m H = .exc c H') : (m.bnd f) H = .exc c H' := by
  unfold M.bnd; rw [h]
theorem bnd_bad {α β : Type} {m : M α} {f : α → M β} {H : Hp} (h : m H = .bad) : (m.bnd f) H = .bad := by
  unfold M.bnd; rw [h]
inductive BOp where
  | add | sub | mul | fdiv | mod
inductive COp where
  | eq | ne | lt | le | gt | is | isNot | isin | notin
inductive Ty where
  | int | bool | str | tuple | list
  | cls (c : Nat)
inductive BF where
  | len | range | list | sorted | sortedSet
inductive BM where
  | append | dpop | remove | rstrip
set_option genCtorIdx false in
mutual
inductive ME where
  | none
  | bool (b : Bool)
  | int (i : Int)
  | str (s : Str)
  | glob (k : Nat)
  | var (i : Nat)
  | bin (op : BOp) (a b : ME)
  | neg (a : ME)
  | not (a : ME)
  | and (a b : ME)
  | or (a b : ME)
  | cmp (op : COp) (a b : ME)
  | cmp2 (op1 op2 : COp) (a b c : ME)
  | sub (a i : ME)
  | slice (a : ME) (lo hi : MEo)
  | tup (es : MEs)
  | list (es : MEs)
  | dict
  | attr (a : ME) (n : Nat)
  | call (f : Nat) (es : MEs)
  | new (c : Nat) (es : MEs)
  | umeth (a : ME) (m : Nat) (es : MEs)
  | bf (f : BF) (es : MEs)
  | bm (a : ME) (m : BM) (es : MEs)
  | isinst (a : ME) (t : Ty)
  | comp (elt : ME) (it : ME) (cond : MEo)
inductive MEo where
  | none
  | some (e : ME)
inductive MEs where
  | nil
  | cons (e : ME) (es : MEs)
end
set_option genCtorIdx false in
mutual
inductive MS where
  | expr (e : ME)
  | assign (i : Nat) (e : ME)
  | setattr (o : ME) (n : Nat) (e : ME)
  | setitem (o i : ME) (e : ME)
  | ret (e : MEo)
  | ite (c : ME) (t f : MSs)
  | each (i : Nat) (it : ME) (body : MSs)
  | eachZip (i j : Nat) (a b : ME) (body : MSs)
  | eachEnum (i j : Nat) (a : ME) (body : MSs)
  | raise (c : Nat) (msg : Str)
  | tryx (body : MSs) (hs : MHs)
inductive MSs where
  | nil
  | cons (s : MS) (ss : MSs)
inductive MHs where
  | nil
  | cons (c : Nat) (i : Option Nat) (body : MSs) (hs : MHs)
end
structure MFun where
  arity : Nat
  nvars : Nat
  body : MSs
structure Tab where
  funs : List MFun
  /-- of each class: its methods, by the name's number; number 0 is __init__ -/
  meths : List (List (Nat × Nat))
  /-- of each class: the classes that it stands under (itself too) -/
  subs : List (List Nat)
  globs : List Val
noncomputable def Tab.meth (T : Tab) (c m : Nat) : Option Nat := (T.meths[c]?).bind fun l => l.lookup m
noncomputable def Tab.sub (T : Tab) (c d : Nat) : Bool := ((T.subs[c]?).getD []).contains d
noncomputable def Tab.isExc (T : Tab) (c : Nat) : Bool := (T.meth c 0).isNone && decide (2 ≤ ((T.subs[c]?).getD []).length)
mutual
noncomputable def calmE (K : Nat → Bool) : ME → Bool
  | .none => true
  | .bool _ => true
  | .int _ => true
  | .str _ => true
  | .var _ => true
  | .bin _ a b => calmE K a && calmE K b
  | .cmp _ a b => calmE K a && calmE K b
  | .isinst a _ => calmE K a
  | .call f es => K f && calmEs K es
  | .bm a m es => (match m with | .rstrip => true | _ => false) && calmE K a && calmEs K es
  | _ => false
noncomputable def calmEs (K : Nat → Bool) : MEs → Bool
  | .nil => true
  | .cons e es => calmE K e && calmEs K es
end
noncomputable def calmO (K : Nat → Bool) : MEo → Bool
  | .none => true
  | .some e => calmE K e
mutual
noncomputable def calmS (K : Nat → Bool) : MS → Bool
  | .assign _ e => calmE K e
  | .ret e => calmO K e
  | .ite c t f => calmE K c && calmSs K t && calmSs K f
  | _ => false
noncomputable def calmSs (K : Nat → Bool) : MSs → Bool
  | .nil => true
  | .cons s ss => calmS K s && calmSs K ss
end
noncomputable def calmFn (T : Tab) (k : Nat) : Bool := match T.funs[k]? with
  | some f => calmSs (fun _ => false) f.body
  | none => false
noncomputable def lid : Nat := 16777216
noncomputable def dats (f : Val → Option PyData) : List Val → Option (List PyData)
  | [] => some []
  | x :: xs =>
    match f x, dats f xs with
    | some d, some ds => some (d :: ds)
    | _, _ => none
noncomputable def dataOf (H : Hp) : Nat → Val → Option PyData
  | 0, v =>
    match v with
    | .none => some .none
    | .bool b => some (.bool b)
    | .int i => some (.int i)
    | .str s => if PyData.strOk s = true then some (.str s) else none
    | _ => none
  | n + 1, v =>
    match v with
    | .none => some .none
    | .bool b => some (.bool b)
    | .int i => some (.int i)
    | .str s => if PyData.strOk s = true then some (.str s) else none
    | .tup vs => (dats (dataOf H n) vs).map .tuple
    | .loc l =>
      match H[l]? with
      | some (.list xs) => (dats (dataOf H n) xs).map .list
      | _ => none
    | _ => none
noncomputable def deep : Nat := 6
noncomputable def pyEq (H : Hp) (a b : Val) : Option Bool :=
  match dataOf H deep a, dataOf H deep b with
  | some x, some y => some (PyData.eqv x y)
  | _, _ => none
noncomputable def lts (e f : Val → Val → Option Bool) : List Val → List Val → Option Bool
  | [], [] => some false
  | [], _ :: _ => some true
  | _ :: _, [] => some false
  | x :: xs, y :: ys =>
    match e x y with
    | some true => lts e f xs ys
    | some false => f x y
    | none => none
noncomputable def intLt (a b : Val) : Option Bool := match a, b with
  | .int x, .int y => some (decide (x < y))
  | _, _ => none
noncomputable def pyLt (_ : Nat) (a b : Val) : Option Bool :=
  match a, b with
  | .int x, .int y => some (decide (x < y))
  | .tup xs, .tup ys => lts (pyEq []) intLt xs ys
  | _, _ => none
noncomputable def keyOf : Val → Option Key
  | .tup [.int a, .int b] => some (a, b)
  | _ => none
noncomputable def valOf (k : Key) : Val := .tup [.int k.1, .int k.2]
noncomputable def dget (es : List (Key × Val)) (k : Key) : Option Val := es.lookup k
noncomputable def dput : List (Key × Val) → Key → Val → List (Key × Val)
  | [], k, v => [(k, v)]
  | (k', v') :: es, k, v => if k' = k then (k', v) :: es else (k', v') :: dput es k v
noncomputable def ddel : List (Key × Val) → Key → List (Key × Val)
  | [], _ => []
  | (k', v') :: es, k => if k' = k then es else (k', v') :: ddel es k
noncomputable def inList (H : Hp) (x : Val) (ys : List Val) : Option Bool :=
  match dataOf H deep x, dats (dataOf H deep) ys with
  | some d, some ds => some (ds.any fun y => PyData.eqv y d)
  | _, _ => none
noncomputable def removeAt (H : Hp) (x : Val) (ys : List Val) : Option Nat :=
  match dataOf H deep x, dats (dataOf H deep) ys with
  | some d, some ds => ds.findIdx? fun y => PyData.eqv y d
  | _, _ => none
noncomputable def small (a : Int) : Bool := decide (-(2 ^ 64) < a) && decide (a < 2 ^ 64)
noncomputable def binV (op : BOp) (a b : Val) : M Val :=
  match op, a, b with
  | .add, .int x, .int y => .ret (.int (x + y))
  | .sub, .int x, .int y => .ret (.int (x - y))
  | .mul, .int x, .int y => if (small x || small y) = true then .ret (.int (x * y)) else .bad
  | .fdiv, .int x, .int y => if y = 0 ∨ 1073741824 ≤ y.natAbs then .bad else .ret (.int (Int.fdiv x y))
  | .mod, .int x, .int y => if y = 0 then .bad else .ret (.int (Int.fmod x y))
  | .add, .str x, .str y => if x.length + y.length ≤ lid then .ret (.str (x ++ y)) else .bad
  | _, _, _ => .bad
noncomputable def flip (_neg : Bool) : Option Bool → Option Bool
  | some b => some (!b)
  | none => none
noncomputable def isV (a b : Val) : Option Bool :=
  match b with
  | .none => some (match a with | .none => true | _ => false)
  | _ => none
noncomputable def inV (a b : Val) (H : Hp) : Option Bool :=
  match b with
  | .loc l =>
    match H[l]? with
    | some (.list ys) => inList H a ys
    | some (.dict es) => match keyOf a with
      | some k => some (dget es k).isSome
      | none => none
    | _ => none
  | _ => none
noncomputable def cmpV (op : COp) (a b : Val) (H : Hp) : Option Bool :=
  match op with
  | .eq => pyEq H a b
  | .ne => flip true (pyEq H a b)
  | .lt => intLt a b
  | .gt => (match a, b with | .int x, .int y => some (decide (x > y)) | _, _ => none)
  | .le => (match a, b with | .int x, .int y => some (decide (x ≤ y)) | _, _ => none)
  | .is => isV a b
  | .isNot => flip true (isV a b)
  | .isin => inV a b H
  | .notin => flip true (inV a b H)
noncomputable def iterOf (v : Val) (H : Hp) : Option (List Val × Option Nat) :=
  match v with
  | .loc l =>
    match H[l]? with
    | some (.list xs) => some (xs, some l)
    | _ => none
  | .rng n => some ((List.range n.toNat).map (fun (k : Nat) => .int (k : Int)), none)
  | _ => none
noncomputable def chk (src : Option Nat) (xs : List Val) (H : Hp) : Bool :=
  match src with
  | none => true
  | some l =>
    match H[l]? with
    | some (.list ys) => sames ys xs
    | _ => false
noncomputable def itemsOf (v : Val) (H : Hp) : Option (List Val) :=
  match v with
  | .loc l =>
    match H[l]? with
    | some (.list xs) => some xs
    | _ => none
  | .tup xs => some xs
  | .script ns => some (ns.map .int)
  | _ => none
noncomputable def placeOf (i : Int) (n : Nat) : Option Nat :=
  if 0 ≤ i then (if i < n then some i.toNat else none) else (if -(n : Int) ≤ i then some (i + n).toNat else none)
noncomputable def subV (a i : Val) : M Val := .look fun H =>
  match a, i with
  | .loc l, i =>
    match H[l]?, i with
    | some (.list xs), .int k => (placeOf k xs.length).bind fun p => xs[p]?
    | _, _ => none
  | .tup xs, .int k => if 0 ≤ k then xs[k.toNat]? else none
  | .script ns, .int k => (placeOf k ns.length).bind fun p => (ns[p]?).map .int
  | _, _ => none
noncomputable def isTup : Val → Bool
  | .tup _ => true
  | _ => false
noncomputable def cutOf (lo hi : Val) (n : Nat) : Option (Bool × Nat) := match lo with
  | .int k => (match hi with
    | .none => some (true, if 0 ≤ k then k.toNat else n - k.natAbs)
    | _ => none)
  | .none => (match hi with
    | .int k => if 0 ≤ k then some (false, k.toNat) else none
    | _ => none)
  | _ => none
noncomputable def cut {α : Type} (p : Bool × Nat) (xs : List α) : List α := match p.1 with
  | true => xs.drop p.2
  | false => xs.take p.2
noncomputable def sliceV (a lo hi : Val) : M Val := fun H =>
  match itemsOf a H with
  | some xs => (match cutOf lo hi xs.length with
    | some p => if isTup a = true then .bad else M.alloc (.list (cut p xs)) H
    | none => .bad)
  | none => .bad
structure Order (xs : List Val) (lt : Val → Val → Bool) : Prop where
  is : ∀ x ∈ xs, ∀ y ∈ xs, pyLt deep x y = some (lt x y)
  asym : ∀ x ∈ xs, ∀ y ∈ xs, lt x y = true → lt y x = false
  tr : ∀ x ∈ xs, ∀ y ∈ xs, ∀ z ∈ xs, lt y x = false → lt z y = false → lt z x = false
  anti : ∀ x ∈ xs, ∀ y ∈ xs, lt x y = false → lt y x = false → x = y
noncomputable def Sortable (xs : List Val) : Prop := xs.length < 64 ∧ (∀ x ∈ xs, ∃ i r, x = .tup (.int i :: r)) ∧ ∃ lt, Order xs lt
noncomputable def IsSorted (xs ys : List Val) : Prop := ys.Perm xs ∧ ys.Pairwise fun a b => pyLt deep b a = some false
open Classical in
noncomputable def sortOf (xs : List Val) : Option (List Val) := if h : Sortable xs ∧ ∃ ys, IsSorted xs ys then some (choose h.2) else none
theorem sorted_uniq {xs : List Val} {lt : Val → Val → Bool} (O : Order xs lt) : ∀ (ys zs : List Val), (∀ y ∈ ys, y ∈ xs) → ys.Perm zs → (ys.Pairwise fun a b => pyLt deep b a = some false) → (zs.Pairwise fun a b => pyLt deep b a = some false) → ys = zs
  | [], zs, _, p, _, _ => (List.nil_perm.mp p).symm
  | y :: ys, [], _, p, _, _ => by have := p.length_eq; simp at this
  | y :: ys, z :: zs, hs, p, sy, sz => by
    have hy := List.pairwise_cons.mp sy
    have hz := List.pairwise_cons.mp sz
    have my : y ∈ xs := hs y (.head _)
    have mz : z ∈ xs := hs z (p.mem_iff.mpr (.head _))
    have irr : ∀ x ∈ xs, lt x x = false := fun x hx => by
      cases q : lt x x with
      | false => rfl
      | true => rw [O.asym x hx x hx q] at q; exact nomatch q
    have g : ∀ a ∈ xs, ∀ b ∈ xs, pyLt deep a b = some false → lt a b = false := fun a ha b hb h => by rw [O.is a ha b hb] at h; exact Option.some.inj h
    have e : y = z := by
      refine O.anti y my z mz ?_ ?_
      · have m2 : y ∈ z :: zs := p.mem_iff.mp (.head _)
        cases m2 with
        | head => exact irr _ my
        | tail _ h => exact g y my z mz (hz.1 y h)
      · have m1 : z ∈ y :: ys := p.mem_iff.mpr (.head _)
        cases m1 with
        | head => exact irr _ mz
        | tail _ h => exact g z mz y my (hy.1 z h)
    subst e
    rw [sorted_uniq O ys zs (fun x hx => hs x (.tail _ hx)) (List.perm_cons y |>.mp p) hy.2 hz.2]
theorem sortOf_eq {xs ys : List Val} (h : Sortable xs) (s : IsSorted xs ys) : sortOf xs = some ys := by
  have q : Sortable xs ∧ ∃ ys, IsSorted xs ys := ⟨h, ys, s⟩
  unfold sortOf
  rw [dif_pos q]
  obtain ⟨lt, O⟩ := h.2.2
  have c := Classical.choose_spec q.2
  rw [sorted_uniq O _ ys (fun y hy => c.1.mem_iff.mp hy) (c.1.trans s.1.symm) c.2 s.2]
set_option tactic.hygienic true in
theorem sortOf_some {xs ys : List Val} (h : sortOf xs = some ys) : Sortable xs ∧ IsSorted xs ys := by
  unfold sortOf at h
  split at h
  · rename_i q
    cases h
    exact ⟨q.1, Classical.choose_spec q.2⟩
  · cases h
noncomputable def bfV (f : BF) (args : List Val) : M Val :=
  match f, args with
  | .len, [v] => .look fun H =>
    match v with
    | v => (itemsOf v H).map fun xs => .int xs.length
  | .range, [.int n] => if -1073741824 ≤ n ∧ n ≤ 1073741824 then .ret (.rng n) else .bad
  | .list, [v] => fun H =>
    match v with
    | .loc _ => match itemsOf v H with
      | some xs => M.alloc (.list xs) H
      | none => .bad
    | _ => .bad
  | .sorted, [.loc l] => fun H =>
    match H[l]? with
    | some (.list xs) => (match sortOf xs with
      | some ys => M.alloc (.list ys) H
      | none => .bad)
    | _ => .bad
  | _, _ => .bad
noncomputable def bmV (m : BM) (o : Val) (args : List Val) : M Val := fun H =>
  match o with
  | .str s =>
    match m, args with
    | .rstrip, [] => if (Txt.rstrip s).length ≤ lid then .ok (.str (Txt.rstrip s)) H else .bad
    | _, _ => .bad
  | .loc l =>
    match H[l]? with
    | some (.list xs) =>
      match m, args with
      | .append, [v] => if xs.length < lid then .ok .none (H.set l (.list (xs ++ [v]))) else .bad
      | .remove, [v] => match removeAt H v xs with
        | some j => .ok .none (H.set l (.list (xs.eraseIdx j)))
        | none => .bad
      | _, _ => .bad
    | some (.dict es) =>
      match m, args with
      | .dpop, [k] => match keyOf k with
        | some k => match dget es k with
          | some v => .ok v (H.set l (.dict (ddel es k)))
          | none => .bad
        | none => .bad
      | _, _ => .bad
    | _ => .bad
  | _ => .bad
inductive Kd where
  | none | bool | int | str | tuple | list | dict
noncomputable def kdOf (H : Hp) : Val → Option Kd
  | .none => some .none
  | .bool _ => some .bool
  | .int _ => some .int
  | .str _ => some .str
  | .tup _ => some .tuple
  | .script _ => some .list
  | .loc l =>
    match H[l]? with
    | some (.list _) => some .list
    | some (.dict _) => some .dict
    | _ => none
  | _ => none
noncomputable def isKd : Ty → Kd → Bool
  | .int, .int => true
  | .int, .bool => true
  | .bool, .bool => true
  | .str, .str => true
  | .tuple, .tuple => true
  | .list, .list => true
  | _, _ => false
noncomputable def isinstV (T : Tab) (v : Val) (t : Ty) : M Val := .look fun H =>
  match t with
  | .cls d =>
    match v with
    | .exc c => if T.isExc c = true then some (.bool (T.sub c d)) else none
    | _ => none
  | t => (kdOf H v).map fun k => .bool (isKd t k)
noncomputable def attrV (v : Val) (n : Nat) : M Val := .look fun H =>
  match v with
  | .loc l =>
    match H[l]? with
    | some (.inst _ fs) => fs.lookup n
    | _ => none
  | _ => none
noncomputable def fput : List (Nat × Val) → Nat → Val → List (Nat × Val)
  | [], n, v => [(n, v)]
  | (m, u) :: r, n, v => if m = n then (m, v) :: r else (m, u) :: fput r n v
noncomputable def setattrV (o : Val) (n : Nat) (v : Val) : M Unit := fun H =>
  match o with
  | .loc l =>
    match H[l]? with
    | some (.inst c fs) => .ok () (H.set l (.inst c (fput fs n v)))
    | _ => .bad
  | _ => .bad
noncomputable def setitemV (o i v : Val) : M Unit := fun H =>
  match o with
  | .loc l =>
    match H[l]? with
    | some (.list xs) =>
      match i with
      | .int k => if 0 ≤ k ∧ k < xs.length then .ok () (H.set l (.list (xs.set k.toNat v))) else .bad
      | _ => .bad
    | some (.dict es) =>
      match keyOf i with
      | some k => if es.length < lid then .ok () (H.set l (.dict (dput es k v))) else .bad
      | none => .bad
    | _ => .bad
  | _ => .bad
noncomputable def bmFits (m : BM) (o : Val) (H : Hp) : Option Unit :=
  match o with
  | .str _ =>
    match m with
    | .rstrip => some ()
    | _ => none
  | .loc l =>
    match H[l]? with
    | some (.list _) =>
      match m with
      | .append => some ()
      | .remove => some ()
      | _ => none
    | some (.dict _) =>
      match m with
      | .dpop => some ()
      | _ => none
    | _ => none
  | _ => none
noncomputable def truth : Val → M Bool
  | .bool b => .ret b
  | _ => .bad
noncomputable abbrev Env' := List (Option Val)
noncomputable abbrev Funs := Nat → List Val → M Val
noncomputable def compL (chk : Hp → Bool) (step : Val → M (Option Val)) : List Val → M (List Val)
  | [] => fun H => if chk H = true then .ok [] H else .bad
  | x :: xs => fun H => if chk H = true then ((step x).bnd fun r => (compL chk step xs).bnd fun ys => .ret (match r with | some y => y :: ys | none => ys)) H else .bad
noncomputable def newV (T : Tab) (Φ : Funs) (c : Nat) (args : List Val) : M Val :=
  match T.meth c 0 with
  | some k => (M.alloc (.inst c [])).bnd fun o => (Φ k (o :: args)).bnd fun r => match r with
    | .none => .ret o
    | _ => .bad
  | none => .bad
noncomputable def umethOf (T : Tab) (o : Val) (m : Nat) : M Nat := .look fun H =>
  match o with
  | .loc l =>
    match H[l]? with
    | some (.inst c _) => T.meth c m
    | _ => none
  | _ => none
mutual
noncomputable def evalE (T : Tab) (Φ : Funs) : ME → Env' → M Val
  | .none, _ => .ret .none
  | .bool b, _ => .ret (.bool b)
  | .int i, _ => .ret (.int i)
  | .str s, _ => .ret (.str s)
  | .glob k, _ => .ofOpt T.globs[k]?
  | .var i, Γ => .ofOpt (match Γ[i]? with | some (some v) => some v | _ => none)
  | .bin op a b, Γ => (evalE T Φ a Γ).bnd fun x => (evalE T Φ b Γ).bnd fun y => binV op x y
  | .neg a, Γ => (evalE T Φ a Γ).bnd fun x => match x with
    | .int i => .ret (.int (-i))
    | _ => .bad
  | .not a, Γ => (evalE T Φ a Γ).bnd fun x => (truth x).bnd fun b => .ret (.bool (!b))
  | .and a b, Γ => (evalE T Φ a Γ).bnd fun x => (truth x).bnd fun t => match t with
    | true => evalE T Φ b Γ
    | false => .ret (.bool false)
  | .or a b, Γ => (evalE T Φ a Γ).bnd fun x => (truth x).bnd fun t => match t with
    | true => .ret (.bool true)
    | false => evalE T Φ b Γ
  | .cmp op a b, Γ => (evalE T Φ a Γ).bnd fun x => (evalE T Φ b Γ).bnd fun y => (M.look (cmpV op x y)).bnd fun r => .ret (.bool r)
  | .cmp2 op1 op2 a b c, Γ => (evalE T Φ a Γ).bnd fun x => (evalE T Φ b Γ).bnd fun y => (M.look (cmpV op1 x y)).bnd fun r => match r with
    | true => (evalE T Φ c Γ).bnd fun z => (M.look (cmpV op2 y z)).bnd fun r => .ret (.bool r)
    | false => .ret (.bool false)
  | .sub a i, Γ => (evalE T Φ a Γ).bnd fun x => (evalE T Φ i Γ).bnd fun y => subV x y
  | .slice a lo hi, Γ => (evalE T Φ a Γ).bnd fun x => (evalO T Φ lo Γ).bnd fun l => (evalO T Φ hi Γ).bnd fun h => sliceV x l h
  | .tup es, Γ => (evalEs T Φ es Γ).bnd fun vs => .ret (.tup vs)
  | .list es, Γ => (evalEs T Φ es Γ).bnd fun vs => M.alloc (.list vs)
  | .dict, _ => M.alloc (.dict [])
  | .attr a n, Γ => (evalE T Φ a Γ).bnd fun x => attrV x n
  | .call f es, Γ => (evalEs T Φ es Γ).bnd fun vs => Φ f vs
  | .new c es, Γ => match T.meth c 0 with
    | some _ => (evalEs T Φ es Γ).bnd fun vs => newV T Φ c vs
    | none => M.bad
  | .umeth a m es, Γ => (evalE T Φ a Γ).bnd fun o => (umethOf T o m).bnd fun k => (evalEs T Φ es Γ).bnd fun vs => Φ k (o :: vs)
  | .bf f es, Γ => (evalEs T Φ es Γ).bnd fun vs => bfV f vs
  | .bm a m es, Γ => (evalE T Φ a Γ).bnd fun o => (M.look (bmFits m o)).bnd fun _ => (evalEs T Φ es Γ).bnd fun vs => bmV m o vs
  | .isinst a t, Γ => (evalE T Φ a Γ).bnd fun x => isinstV T x t
  | .comp elt it cond, Γ => (evalE T Φ it Γ).bnd fun v => (M.look (iterOf v)).bnd fun p =>
      (M.quiet (compL (chk p.2 p.1) (fun x => (evalC T Φ cond (Γ ++ [some x])).bnd fun b => match b with
        | true => (evalE T Φ elt (Γ ++ [some x])).bnd fun y => .ret (some y)
        | false => .ret none) p.1)).bnd fun ys => if ys.length < lid then M.alloc (.list ys) else .bad
noncomputable def evalO (T : Tab) (Φ : Funs) : MEo → Env' → M Val
  | .none, _ => .ret .none
  | .some e, Γ => evalE T Φ e Γ
noncomputable def evalC (T : Tab) (Φ : Funs) : MEo → Env' → M Bool
  | .none, _ => .ret true
  | .some e, Γ => (evalE T Φ e Γ).bnd truth
noncomputable def evalEs (T : Tab) (Φ : Funs) : MEs → Env' → M (List Val)
  | .nil, _ => .ret []
  | .cons e es, Γ => (evalE T Φ e Γ).bnd fun v => (evalEs T Φ es Γ).bnd fun vs => .ret (v :: vs)
end
inductive ResS where
  | next (Γ : Env') (H : Hp)
  | ret (v : Val) (H : Hp)
  | exc (c : Nat) (Γ : Env') (H : Hp)
  | bad
noncomputable def bndS {α : Type} (m : M α) (Γ : Env') (f : α → Hp → ResS) (H : Hp) : ResS :=
  match m H with
  | .ok a H' => f a H'
  | .exc c H' => .exc c Γ H'
  | .bad => .bad
noncomputable def thenS (r : ResS) (f : Env' → Hp → ResS) : ResS :=
  match r with
  | .next Γ H => f Γ H
  | .ret v H => .ret v H
  | .exc c Γ H => .exc c Γ H
  | .bad => .bad
noncomputable def eachL (chk : Hp → Bool) (bind : Val → Env' → Option Env') (body : Env' → Hp → ResS) : List Val → Env' → Hp → ResS
  | [], Γ, H => if chk H = true then .next Γ H else .bad
  | x :: xs, Γ, H => if chk H = true then (match bind x Γ with
    | some Γ' => thenS (body Γ' H) (eachL chk bind body xs)
    | none => .bad) else .bad
noncomputable def pairUp : List Val → List Val → List Val
  | a :: as, b :: bs => .tup [a, b] :: pairUp as bs
  | _, _ => []
noncomputable def countUp : Nat → List Val → List Val
  | _, [] => []
  | n, a :: as => .tup [.int n, a] :: countUp (n + 1) as
noncomputable def bind1 (i : Nat) (v : Val) (Γ : Env') : Option Env' := some (Γ.set i (some v))
noncomputable def bind2 (i j : Nat) (v : Val) (Γ : Env') : Option Env' :=
  match v with
  | .tup [a, b] => some ((Γ.set i (some a)).set j (some b))
  | _ => none
noncomputable def listOf (v : Val) (H : Hp) : Option (List Val × Nat) :=
  match v with
  | .loc l =>
    match H[l]? with
    | some (.list xs) => some (xs, l)
    | _ => none
  | _ => none
noncomputable def zipOf (v w : Val) (H : Hp) : Option ((List Val × Option Nat) × (List Val × Option Nat)) :=
  match listOf v H, listOf w H with
  | some p, some q => some ((p.1, some p.2), (q.1, some q.2))
  | _, _ => none
noncomputable def isHid (l : Nat) (H : Hp) : Bool :=
  match H[l]? with
  | some .hid => true
  | _ => false
mutual
noncomputable def execS (T : Tab) (Φ : Funs) : MS → Env' → Hp → ResS
  | .expr e, Γ, H => bndS (evalE T Φ e Γ) Γ (fun _ H => .next Γ H) H
  | .assign i e, Γ, H => bndS (evalE T Φ e Γ) Γ (fun v H => .next (Γ.set i (some v)) H) H
  | .setattr o n e, Γ, H => bndS (evalE T Φ e Γ) Γ (fun v => bndS (evalE T Φ o Γ) Γ fun o => bndS (setattrV o n v) Γ fun _ H => .next Γ H) H
  | .setitem o i e, Γ, H => bndS (evalE T Φ e Γ) Γ (fun v => bndS (evalE T Φ o Γ) Γ fun o => bndS (evalE T Φ i Γ) Γ fun i => bndS (setitemV o i v) Γ fun _ H => .next Γ H) H
  | .ret e, Γ, H => bndS (evalO T Φ e Γ) Γ (fun v H => .ret v H) H
  | .ite c t f, Γ, H => bndS ((evalE T Φ c Γ).bnd truth) Γ (fun b => match b with
    | true => execSs T Φ t Γ
    | false => execSs T Φ f Γ) H
  | .each i it body, Γ, H => bndS (evalE T Φ it Γ) Γ (fun v => bndS (M.look (iterOf v)) Γ fun p => eachL (chk p.2 p.1) (bind1 i) (execSs T Φ body) p.1 Γ) H
  | .eachZip i j a b body, Γ, H => bndS (evalE T Φ a Γ) Γ (fun v => bndS (evalE T Φ b Γ) Γ fun w => bndS (M.look (zipOf v w)) Γ fun p => fun H =>
      if p.1.1.length = p.2.1.length then eachL (fun H' => chk p.1.2 p.1.1 H' && chk p.2.2 p.2.1 H' && isHid H.length H') (bind2 i j) (execSs T Φ body) (pairUp p.1.1 p.2.1) Γ (H ++ [.hid]) else .bad) H
  | .eachEnum i j a body, Γ, H => bndS (evalE T Φ a Γ) Γ (fun v => bndS (M.look (listOf v)) Γ fun p => eachL (chk (some p.2) p.1) (bind2 i j) (execSs T Φ body) (countUp 0 p.1) Γ) H
  | .raise c _, Γ, H => if T.isExc c = true then .exc c Γ H else .bad
  | .tryx body hs, Γ, H =>
    match execSs T Φ body Γ H with
    | .exc c Γ' H' => execH T Φ hs c Γ' H'
    | r => r
noncomputable def execSs (T : Tab) (Φ : Funs) : MSs → Env' → Hp → ResS
  | .nil, Γ, H => .next Γ H
  | .cons s ss, Γ, H => thenS (execS T Φ s Γ H) (execSs T Φ ss)
noncomputable def execH (T : Tab) (Φ : Funs) : MHs → Nat → Env' → Hp → ResS
  | .nil, c, Γ, H => .exc c Γ H
  | .cons d i body hs, c, Γ, H =>
    if (T.isExc c && T.isExc d && calmSs (calmFn T) body) = false then .bad else if T.sub c d = true then
      match execSs T Φ body (match i with | some i => Γ.set i (some (.exc c)) | none => Γ) H with
      | .ret v H' => .ret v H'
      | _ => .bad
    else execH T Φ hs c Γ H
end
noncomputable def resOf : ResS → Res Val
  | .next _ H' => .ok .none H'
  | .ret v H' => .ok v H'
  | .exc c _ H' => .exc c H'
  | .bad => .bad
noncomputable def runF (T : Tab) (Φ : Funs) (f : MFun) (args : List Val) : M Val := fun H =>
  if args.length = f.arity then resOf (execSs T Φ f.body (args.map some ++ List.replicate f.nvars none) H) else .bad
noncomputable def callF (T : Tab) : Nat → Funs
  | 0, _, _ => .bad
  | d + 1, k, args =>
    match T.funs[k]? with
    | none => .bad
    | some f => runF T (callF T d) f args
theorem ev_glob {T : Tab} {Φ : Funs} {Γ : Env'} (k) : evalE T Φ (.glob k) Γ = (.ofOpt T.globs[k]?) := rfl
theorem ev_var {T : Tab} {Φ : Funs} {Γ : Env'} (i) : evalE T Φ (.var i) Γ = (.ofOpt (match Γ[i]? with | some (some v) => some v | _ => none)) := rfl
theorem ev_not {T : Tab} {Φ : Funs} {Γ : Env'} (a) : evalE T Φ (.not a) Γ = ((evalE T Φ a Γ).bnd fun x => (truth x).bnd fun b => .ret (.bool (!b))) := rfl
theorem ev_and {T : Tab} {Φ : Funs} {Γ : Env'} (a b) : evalE T Φ (.and a b) Γ = ((evalE T Φ a Γ).bnd fun x => (truth x).bnd fun t => match t with
    | true => evalE T Φ b Γ
    | false => .ret (.bool false)) := rfl
theorem ev_or {T : Tab} {Φ : Funs} {Γ : Env'} (a b) : evalE T Φ (.or a b) Γ = ((evalE T Φ a Γ).bnd fun x => (truth x).bnd fun t => match t with
    | true => .ret (.bool true)
    | false => evalE T Φ b Γ) := rfl
theorem ev_cmp {T : Tab} {Φ : Funs} {Γ : Env'} (op a b) : evalE T Φ (.cmp op a b) Γ = ((evalE T Φ a Γ).bnd fun x => (evalE T Φ b Γ).bnd fun y => (M.look (cmpV op x y)).bnd fun r => .ret (.bool r)) := rfl
theorem ev_cmp2 {T : Tab} {Φ : Funs} {Γ : Env'} (op1 op2 a b c) : evalE T Φ (.cmp2 op1 op2 a b c) Γ = ((evalE T Φ a Γ).bnd fun x => (evalE T Φ b Γ).bnd fun y => (M.look (cmpV op1 x y)).bnd fun r => match r with
    | true => (evalE T Φ c Γ).bnd fun z => (M.look (cmpV op2 y z)).bnd fun r => .ret (.bool r)
    | false => .ret (.bool false)) := rfl
theorem ev_call {T : Tab} {Φ : Funs} {Γ : Env'} (f es) : evalE T Φ (.call f es) Γ = ((evalEs T Φ es Γ).bnd fun vs => Φ f vs) := rfl
theorem ev_new {T : Tab} {Φ : Funs} {Γ : Env'} (c es) : evalE T Φ (.new c es) Γ = (match T.meth c 0 with
    | some _ => (evalEs T Φ es Γ).bnd fun vs => newV T Φ c vs
    | none => M.bad) := rfl
theorem ev_umeth {T : Tab} {Φ : Funs} {Γ : Env'} (a m es) : evalE T Φ (.umeth a m es) Γ = ((evalE T Φ a Γ).bnd fun o => (umethOf T o m).bnd fun k => (evalEs T Φ es Γ).bnd fun vs => Φ k (o :: vs)) := rfl
theorem ev_bf {T : Tab} {Φ : Funs} {Γ : Env'} (f es) : evalE T Φ (.bf f es) Γ = ((evalEs T Φ es Γ).bnd fun vs => bfV f vs) := rfl
theorem ev_bm {T : Tab} {Φ : Funs} {Γ : Env'} (a m es) : evalE T Φ (.bm a m es) Γ = ((evalE T Φ a Γ).bnd fun o => (M.look (bmFits m o)).bnd fun _ => (evalEs T Φ es Γ).bnd fun vs => bmV m o vs) := rfl
theorem ev_isinst {T : Tab} {Φ : Funs} {Γ : Env'} (a t) : evalE T Φ (.isinst a t) Γ = ((evalE T Φ a Γ).bnd fun x => isinstV T x t) := rfl
theorem ex_assign {T : Tab} {Φ : Funs} {Γ : Env'} {H : Hp} (i e) : execS T Φ (.assign i e) Γ H = (bndS (evalE T Φ e Γ) Γ (fun v H => .next (Γ.set i (some v)) H) H) := rfl
theorem ex_raise {T : Tab} {Φ : Funs} {Γ : Env'} {H : Hp} (c m) : execS T Φ (.raise c m) Γ H = (if T.isExc c = true then .exc c Γ H else .bad) := rfl
theorem evs_cons {T : Tab} {Φ : Funs} {Γ : Env'} (e es) : evalEs T Φ (.cons e es) Γ = ((evalE T Φ e Γ).bnd fun v => (evalEs T Φ es Γ).bnd fun vs => .ret (v :: vs)) := rfl
end
end Mine
-- part MIsi
set_option maxRecDepth 100000
namespace Mine
open PySem PySem.W PySem.Spec PySem.Calls PyProof.Rows
structure ExcK (K : Frag) (D : Addr) : Prop where
  ga : findIn K (.ref D) "__getattribute__" = some (some (.builtin "BaseException.__getattribute__"))
  gt : findIn K (.ref D) "__getattr__" = some none
  mb : mroIn K D (.type "BaseException") = some true
  hd : hasDictIn K D = true
  fc : findIn K (.ref D) "__class__" = some (some (.builtin "object.__class__"))
  sg : specialIn K (.builtin "object.__class__") "__get__" = some (some (.builtin "getset_descriptor.__get__"))
  tk : takesIn K (.builtin "object.__class__") = some true
  mo : mroIn K D (.type "object") = some true
section
variable {prog : Program} {w : World} {A : Around} {E : Value → Shared → Prop} {s : Shared} {K : Frag} {x D : Addr} {ox : Obj}
theorem exc_ga : Slot "ValueError" "__getattribute__" "BaseException.__getattribute__" := F.excAttr_ValueError.ga
theorem exc_check {M : Model} {nameV : Value} {Q : Unit → Shared → Prop} (k : ExcK K D) (X : K.In s.heap) (I : InstAt s.heap x ox D none) (h : Q () s) :
    wpAny M A (checkBuiltinCall "BaseException.__getattribute__" ⟨[.ref x, nameV], []⟩) Q E s := by
  obtain ⟨hh, g, d, t, os⟩ := s
  have hk : builtinKind "BaseException.__getattribute__" = some .slot := by decide +kernel
  have hsplit : splitId "BaseException.__getattribute__" = some ("BaseException", "__getattribute__") := by decide +kernel
  have ha := F.args_bexc_ga (.ref x) nameV
  have LI : Looks M hh (isInstance (.ref x) (.type "BaseException")) true := (I.type (M := M)).andThen (looks_mroIn (M := M) X k.mb)
  simp only [checkBuiltinCall, hk, hsplit]
  refine wpAny_bind (LI.at ?_)
  repeat (first | exact h | wp_step)
theorem exc_entry {tk : Tok} {Q : Fin → Shared → Prop} (k : ExcK K D) (X : K.In s.heap) (I : InstAt s.heap x ox D none) (h : Q (.done (.ret (.ref D))) s) :
    wpAny (model prog w) A (Builtin.«object.__getattribute__» ⟨[.ref x, .str "__class__" tk], []⟩) Q E s := by
  have hc : (clsIn K D).isSome = true := by refine ex1 (any_some k.hd) fun cd zz => aNd2 zz fun hc _ => ?_; rw [hc]; rfl
  have hf : findObj K D none "__class__" = some (.bind (.builtin "getset_descriptor.__get__") (.builtin "object.__class__")) := by
    obtain ⟨cd, hc⟩ := Option.isSome_iff_exists.mp hc
    unfold findObj
    rw [hc, Option.bind_some, k.fc, Option.bind_some]
    simp [k.sg, k.tk]
  have L0 := I.type (M := model prog w)
  have L1 := looks_find (M := model prog w) X I hf
  unfold Builtin.«object.__getattribute__»
  refine wpAny_bind (wpAny_pure (wpAny_bind (wpAny_pure (wpAny_bind (L0.at (wpAny_bind (L1.at ?_)))))))
  exact wpAny_bind (wpAny_holding (wpAny_call (class_get (ox := ox) (od := none) X I k.mo (wpAny_pure h))))
theorem excK_class {Q : Option Value → Shared → Prop} (k : ExcK K D) (X : K.In s.heap) (I : InstAt s.heap x ox D none) (h : Q (some (.ref D)) { s with toks := s.toks + 1 }) : wpAny (model prog w) A (getAttr? (.ref x) "__class__") Q E s := by
  obtain ⟨hh, g, d, t, os⟩ := s
  have L0 := I.type (M := model prog w)
  have L1 := looks_findIn (M := model prog w) X k.ga
  have L2 := looks_findIn (M := model prog w) X k.gt
  unfold getAttr? getAttrBy? getAttrBy
  refine wpAny_bind (wpAny_mkText (wpAny_bind (wpAny_attempt (wpAny_holding (wpAny_bind (L0.at (wpAny_bind (L1.at ?_))))))))
  unfold getAttrByItsOwn
  refine wpAny_bind ?_
  refine L2.at ?_
  refine wpAny_bind (wpAny_attempt (wpAny_holding ?_))
  show wpAny _ _ (boundAndCalled _ _ _) _ _ _
  unfold boundAndCalled
  refine wpAny_bind (wpAny_of_eq (exc_ga.bind (.ref x)) ?_)
  refine wpAny_call (codeAny_call_builtin exc_ga.plain F.entry_bexc_ga (exc_check k X I (exc_entry k X I ?_)))
  exact handed_on rfl (wpAny_pure h)
set_option tactic.hygienic true in
theorem excK_nested {c : Value} {dep : Int} {tk : Tok} {b : Bool} {Q : Fin → Shared → Prop} (k : ExcK K D) (X : K.In s.heap) (I : InstAt s.heap x ox D none) (hty : Looks (model prog w) s.heap (typeOf c) (.type "type")) (his : Looks (model prog w) s.heap (isType c) true)
    (hself : (Value.ref D == c) = true → b = true) (hsub : Looks (model prog w) s.heap (isSubtype (.ref D) c) b) (h : ∀ tk, Q (.done (.ret (.bool b))) { s with toks := tk }) :
    wpAny (model prog w) A (Builtin.«isinstance.nested» ⟨[.ref x, c, .int dep tk], []⟩) Q E s := by
  refine ex1 (any_some k.hd) fun cdD zz => aNd2 zz fun hcD _ => ?_
  have hisD : Looks (model prog w) s.heap (isType (.ref D)) true := by
    unfold clsIn at hcD
    split at hcD
    · rename_i c' d' cd' sl' ho
      intro A' Q' E' s' k q
      unfold isType loadHead
      exact wpAny_bind (wpAny_loadPart (k _ _ (X _ _ ho)) (wpAny_pure q))
    · cases hcD
  obtain ⟨h0, g, d, tt, os⟩ := s
  have L0 := I.type (M := model prog w)
  have LI : Looks (model prog w) h0 (isInstance (.ref x) c) b := L0.andThen hsub
  unfold Builtin.«isinstance.nested»
  refine wpAny_bind (L0.at ?_)
  by_cases q : (Value.ref D == c) = true
  · rw [if_pos q]
    have hb := hself q
    subst hb
    exact wpAny_bind (wpAny_rule (wpAny_bind (wpAny_pure (wpAny_pure (h tt)))))
  rw [if_neg q]
  refine wpAny_bind (hty.at ?_)
  k_delta "plainIsInstance"
  refine wpAny_bind (wpAny_bind (his.at ?_))
  simp only [Bool.not_true, Bool.false_eq_true, if_false]
  refine wpAny_bind (LI.at ?_)
  cases b with
  | true =>
    simp only [if_true]
    first
      | exact wpAny_pure (h tt)
      | exact wpAny_pure (wpAny_pure (h tt))
      | exact wpAny_bind (wpAny_pure (wpAny_pure (h tt)))
  | false =>
    simp only [Bool.false_eq_true, if_false]
    refine wpAny_bind (excK_class k X I ?_)
    refine wpAny_bind (hisD.at ?_)
    simp only [Bool.not_true, Bool.false_eq_true, if_false]
    refine wpAny_bind (wpAny_rule ?_)
    refine hsub.at ?_
    first
      | exact wpAny_pure (h _)
      | exact wpAny_pure (wpAny_pure (h _))
      | exact wpAny_bind (wpAny_pure (wpAny_pure (h _)))
theorem excK_call {c : Value} {b : Bool} {Q : Value → Shared → Prop} (k : ExcK K D) (X : K.In s.heap) (I : InstAt s.heap x ox D none) (hty : ∀ (M : Model) h', K.In h' → Looks M h' (typeOf c) (.type "type")) (his : ∀ (M : Model) h', K.In h' → Looks M h' (isType c) true)
    (hself : (Value.ref D == c) = true → b = true) (hsub : ∀ (M : Model) h', K.In h' → Looks M h' (isSubtype (.ref D) c) b) (h : ∀ tk, Q (.bool b) { s with toks := tk }) : wpAny (model prog w) A (call (.builtin "isinstance") [.ref x, c]) Q E s :=
  call_isinstance (S := fun _ R s => (K.In s.heap ∧ InstAt s.heap x ox D none) ∧ ∀ tk, R (.ok (.ret (.bool b))) { s with toks := tk })
    (fun _ _ _ _ _ hs => isinstance_outer (excK_nested k hs.1.1 hs.1.2 (hty _ _ hs.1.1) (his _ _ hs.1.1) hself (hsub _ _ hs.1.1) hs.2) (by intro q; cases q)) ⟨⟨X, I⟩, h⟩
end
noncomputable def clsVal (K : Frag) (v : Value) : Bool := match v with
  | .ref a => (clsIn K a).isSome && typeIn K (.ref a) == some (.type "type")
  | .type T => decide (T = "ValueError")
  | _ => false
set_option tactic.hygienic true in
theorem clsVal_ty {K : Frag} {v : Value} (h : clsVal K v = true) {M : Model} {g : Heap} (X : K.In g) : Looks M g (typeOf v) (.type "type") ∧ Looks M g (isType v) true := by
  cases v with
  | ref a =>
    have h : ((clsIn K a).isSome && typeIn K (.ref a) == some (.type "type")) = true := h
    rw [Bool.and_eq_true] at h
    refine ⟨looks_typeIn X (beq_iff_eq.mp h.2), ?_⟩
    have e := h.1
    unfold clsIn at e
    split at e
    · rename_i c' d' cd' sl' ho
      intro A' Q' E' s' k q
      unfold isType loadHead
      exact wpAny_bind (wpAny_loadPart (k _ _ (X _ _ ho)) (wpAny_pure q))
    · cases e
  | type T =>
    have h : T = "ValueError" := of_decide_eq_true h
    subst h
    exact ⟨Looks.of_pure (by kernel_rfl), Looks.of_pure rfl⟩
  | _ => cases h
end Mine
-- part MRel
namespace Mine
open PySem
noncomputable abbrev Rho := List (Addr × Addr)
noncomputable def Owned (ρ : Rho) (a : Addr) : Prop := ∃ p ∈ ρ, a = p.1 ∨ a = p.2
noncomputable def Grow (ρ : Rho) (h : Heap) (ρ' : Rho) : Prop := ∃ e, ρ' = ρ ++ e ∧ ∀ p ∈ e, h.get? p.1 = none ∧ h.get? p.2 = none
noncomputable def Live (h h' : Heap) : Prop := ∀ b o, h.get? b = some o → ∃ o', h'.get? b = some o'
theorem Live.refl (h : Heap) : Live h h := fun _ o e => ⟨o, e⟩
theorem Live.trans {h h' h'' : Heap} (x : Live h h') (y : Live h' h'') : Live h h'' := fun b o e => let ⟨o', e'⟩ := x b o e; y b o' e'
theorem Live.none {h h' : Heap} (x : Live h h') {a : Addr} (e : h'.get? a = none) : h.get? a = none := by
  cases q : h.get? a with
  | none => rfl
  | some o => obtain ⟨o', e'⟩ := x a o q; rw [e] at e'; cases e'
theorem fresh_none (h : Heap) : h.get? h.objs.size = none := by
  cases q : h.get? h.objs.size with
  | none => rfl
  | some o => exact absurd (Heap.lt_size q) (Nat.lt_irrefl _)
theorem fresh_le {h : Heap} {a : Addr} (z : h.objs.size ≤ a) : h.get? a = none := by
  cases q : h.get? a with
  | none => rfl
  | some o => exact absurd (Heap.lt_size q) (Nat.not_lt.mpr z)
noncomputable def SameUp (o o' : Obj) : Prop := o' = o ∨ ((∃ es n, o.data = .dict es n) ∧ o' = { o with slots := o'.slots })
theorem SameUp.refl (o : Obj) : SameUp o o := .inl rfl
theorem SameUp.trans {o o' o'' : Obj} (x : SameUp o o') (y : SameUp o' o'') : SameUp o o'' := by
  rcases x with rfl | ⟨c, e⟩
  · exact y
  · rcases y with rfl | ⟨_, e'⟩
    · exact .inr ⟨c, e⟩
    · exact .inr ⟨c, by rw [e', e]⟩
theorem SameUp.exact {o o' : Obj} (x : SameUp o o') (n : ∀ es n, o.data ≠ .dict es n) : o' = o := x.elim id fun ⟨⟨es, k, e⟩, _⟩ => absurd e (n es k)
theorem SameUp.data {o o' : Obj} (x : SameUp o o') : o'.data = o.data := by rcases x with rfl | ⟨_, e⟩; rfl; rw [e]
noncomputable def Keep (ρ : Rho) (h h' : Heap) : Prop := ∀ b o, h.get? b = some o → ¬ Owned ρ b → ∃ o', h'.get? b = some o' ∧ SameUp o o'
theorem Keep.exact {ρ : Rho} {h h' : Heap} (k : Keep ρ h h') {b : Addr} {o : Obj} (e : h.get? b = some o) (n : ¬ Owned ρ b) (c : ∀ es n, o.data ≠ .dict es n) : h'.get? b = some o := by
  refine ex1 (k b o e n) fun o' zz => aNd2 zz fun e' u => ?_
  rw [e', u.exact c]
noncomputable def Fixed (o : Obj) : Prop := (o.cls = .type "tuple" ∧ ∃ xs n, o.data = .seq xs n) ∨ (o.cls = .type "range" ∧ ∃ vs, o.data = .fields vs)
noncomputable def IsExcO (o : Obj) (C : Addr) : Prop := o.cls = .ref C ∧ (∃ vs, o.data = .fields vs) ∧ o.dict = none
theorem Fixed.notDict {o : Obj} (f : Fixed o) (es : Array DictEntry) (n : Nat) : o.data ≠ .dict es n := by
  rcases f with ⟨_, xs, k, e⟩ | ⟨_, vs, e⟩ <;> rw [e] <;> exact fun q => nomatch q
theorem IsExcO.notDict {o : Obj} {C : Addr} (f : IsExcO o C) (es : Array DictEntry) (n : Nat) : o.data ≠ .dict es n := by
  refine aNd3 f fun _ zn1 _ => ?_; obtain ⟨vs, e⟩ := zn1
  rw [e]; exact fun q => nomatch q
theorem Grow.refl (ρ : Rho) (h : Heap) : Grow ρ h ρ := ⟨[], by simp, by simp⟩
theorem Grow.owned {ρ ρ' : Rho} {h : Heap} (g : Grow ρ h ρ') {a : Addr} (o : Owned ρ' a) : Owned ρ a ∨ h.get? a = none := by
  refine ex1 g fun e zz => aNd2 zz fun zr1 he => ?_; subst zr1
  refine ex1 o fun p zz => aNd2 zz fun hp hpa => ?_
  rcases List.mem_append.mp hp with hp | hp
  · exact .inl ⟨p, hp, hpa⟩
  · right
    rcases hpa with rfl | rfl
    · exact (he p hp).1
    · exact (he p hp).2
theorem Grow.sub {ρ ρ' : Rho} {h : Heap} (g : Grow ρ h ρ') {a : Addr} (o : Owned ρ a) : Owned ρ' a := by
  refine ex1 g fun e zz => aNd2 zz fun zr1 he => ?_; subst zr1
  refine ex1 o fun p zz => aNd2 zz fun hp hpa => ?_
  exact ⟨p, List.mem_append.mpr (.inl hp), hpa⟩
theorem Grow.get {ρ ρ' : Rho} {h : Heap} (g : Grow ρ h ρ') {l : Nat} {p : Addr × Addr} (e : ρ[l]? = some p) : ρ'[l]? = some p := by
  refine ex1 g fun e' zz => aNd2 zz fun zr1 he => ?_; subst zr1
  obtain ⟨hl, _⟩ := List.getElem?_eq_some_iff.mp e
  rw [List.getElem?_append_left hl, e]
theorem Grow.not {ρ ρ' : Rho} {h : Heap} (g : Grow ρ h ρ') {a : Addr} {o : Obj} (n : ¬ Owned ρ a) (e : h.get? a = some o) : ¬ Owned ρ' a := fun w => by
  rcases g.owned w with w | w
  · exact n w
  · rw [e] at w; cases w
theorem Grow.trans {ρ ρ' ρ'' : Rho} {h h' : Heap} (x : Grow ρ h ρ') (y : Grow ρ' h' ρ'') (z : Live h h') : Grow ρ h ρ'' := by
  refine ex1 x fun e1 zz => aNd2 zz fun zr1 h1 => ?_; subst zr1
  refine ex1 y fun e2 zz => aNd2 zz fun zr1 h2 => ?_; subst zr1
  refine ⟨e1 ++ e2, by rw [List.append_assoc], fun p hp => ?_⟩
  rcases List.mem_append.mp hp with hp | hp
  · exact h1 p hp
  · exact ⟨z.none (h2 p hp).1, z.none (h2 p hp).2⟩
structure Step (ρ : Rho) (h : Heap) (ρ' : Rho) (h' : Heap) : Prop where
  more : ∃ e, ρ' = ρ ++ e
  keepT : ∀ b o, h.get? b = some o → Fixed o → ¬ Owned ρ b → h'.get? b = some o ∧ ¬ Owned ρ' b
  keepC : ∀ b o C, h.get? b = some o → IsExcO o C → ¬ Owned ρ b → ∃ o', h'.get? b = some o' ∧ IsExcO o' C ∧ ¬ Owned ρ' b
theorem Step.get {ρ ρ' : Rho} {h h' : Heap} (st : Step ρ h ρ' h') {l : Nat} {p : Addr × Addr} (e : ρ[l]? = some p) : ρ'[l]? = some p := by
  obtain ⟨e', rfl⟩ := st.more
  obtain ⟨hl, _⟩ := List.getElem?_eq_some_iff.mp e
  rw [List.getElem?_append_left hl, e]
structure Full (ρ : Rho) (h : Heap) (ρ' : Rho) (h' : Heap) : Prop where
  grow : Grow ρ h ρ'
  keep : Keep ρ h h'
  live : Live h h'
theorem Full.step {ρ ρ' : Rho} {h h' : Heap} (x : Full ρ h ρ' h') : Step ρ h ρ' h' :=
  ⟨let ⟨e, h1, _⟩ := x.grow; ⟨e, h1⟩, fun b o e f n => ⟨x.keep.exact e n f.notDict, x.grow.not n e⟩, fun b o C e c n => ⟨o, x.keep.exact e n c.notDict, c, x.grow.not n e⟩⟩
theorem Full.refl (ρ : Rho) (h : Heap) : Full ρ h ρ h := ⟨Grow.refl ρ h, fun _ o e _ => ⟨o, e, .refl o⟩, .refl h⟩
theorem Step.refl (ρ : Rho) (h : Heap) : Step ρ h ρ h := (Full.refl ρ h).step
theorem Full.trans {ρ ρ' ρ'' : Rho} {h h' h'' : Heap} (x : Full ρ h ρ' h') (y : Full ρ' h' ρ'' h'') : Full ρ h ρ'' h'' :=
  ⟨x.grow.trans y.grow x.live, fun b o e n => by
      refine ex1 (x.keep b o e n) fun o' zz => aNd2 zz fun e' u => ?_
      refine ex1 (y.keep b o' e' (x.grow.not n e)) fun o'' zz => aNd2 zz fun e'' u' => ?_
      exact ⟨o'', e'', u.trans u'⟩, x.live.trans y.live⟩
theorem Full.more {ρ : Rho} {h h' : Heap} (k : ∀ b o, h.get? b = some o → h'.get? b = some o) : Full ρ h ρ h' :=
  ⟨Grow.refl ρ h, fun b o e _ => ⟨o, k b o e, .refl o⟩, fun b o e => ⟨o, k b o e⟩⟩
theorem Full.push (ρ : Rho) (h : Heap) (o : Obj) : Full ρ h ρ (h.push o) := Full.more fun _ _ e => Heap.get?_push_of_some _ e
theorem Full.alloc {ρ : Rho} {h h' : Heap} {p : Addr × Addr} (k : ∀ b o, h.get? b = some o → h'.get? b = some o) (hp : h.get? p.1 = none ∧ h.get? p.2 = none) : Full ρ h (ρ ++ [p]) h' :=
  ⟨⟨[p], rfl, fun q hq => by rw [List.mem_singleton.mp hq]; exact hp⟩, fun b o e _ => ⟨o, k b o e, .refl o⟩, fun b o e => ⟨o, k b o e⟩⟩
theorem Step.ext {ρ : Rho} {h h' : Heap} {a : Addr} {o : Obj} (e : h.get? a = some o) (hs : Heap.ExtBut a h h') (n1 : ¬ Fixed o) (n2 : ∀ C, ¬ IsExcO o C) : Step ρ h ρ h' :=
  ⟨⟨[], by simp⟩, fun b ob eb f no => ⟨hs b ob (fun q => by subst q; rw [e] at eb; cases eb; exact n1 f) eb, no⟩,
    fun b ob C eb c no => ⟨ob, hs b ob (fun q => by subst q; rw [e] at eb; cases eb; exact n2 C c) eb, c, no⟩⟩
theorem SameBut.live {h h' : Heap} {a : Addr} {o' : Obj} (hs : Heap.SameBut a h h') (e' : h'.get? a = some o') : Live h h' := fun b o e => by
  by_cases q : b = a
  · subst q; exact ⟨o', e'⟩
  · exact ⟨o, by rw [hs.2 b q]; exact e⟩
theorem Step.but {ρ : Rho} {h h' : Heap} {a : Addr} {o o' : Obj} (e' : h'.get? a = some o') (e : h.get? a = some o) (hs : Heap.SameBut a h h') (n1 : ¬ Fixed o) (n2 : ∀ C, ¬ IsExcO o C) : Step ρ h ρ h' :=
  ⟨⟨[], by simp⟩, fun b ob eb f no => by
      by_cases q : b = a
      · subst q; rw [e] at eb; cases eb; exact absurd f n1
      · rw [hs.2 b q]; exact ⟨eb, no⟩,
    fun b ob C eb c no => by
      by_cases q : b = a
      · subst q; rw [e] at eb; cases eb; exact absurd c (n2 C)
      · exact ⟨ob, by rw [hs.2 b q]; exact eb, c, no⟩⟩
theorem Full.own {ρ : Rho} {h h' : Heap} {a : Addr} {o' : Obj} (o : Owned ρ a) (e' : h'.get? a = some o') (hs : Heap.SameBut a h h') : Full ρ h ρ h' :=
  ⟨Grow.refl ρ h, fun b ob eb n => by
      have q : b ≠ a := fun q => n (q ▸ o)
      exact ⟨ob, by rw [hs.2 b q]; exact eb, .refl ob⟩, SameBut.live hs e'⟩
structure Cx where
  prog : Program
  w : World
  T : Tab
  s₀ : Shared
  cls : List Value
  attrs : List Str
  fns : List Addr
noncomputable def Cx.h₀ (cx : Cx) : Heap := cx.s₀.heap
noncomputable def listO (vs : List Value) (n : Nat) : Obj := { cls := .type "list", dict := none, data := .seq vs.toArray n, slots := #[] }
noncomputable def tupO (vs : List Value) (n : Nat) : Obj := { cls := .type "tuple", dict := none, data := .seq vs.toArray n, slots := #[] }
mutual
inductive VR (cx : Cx) (ρ : Rho) (h : Heap) : Val → Value → Prop
  | none : VR cx ρ h .none .none
  | bool (b : Bool) : VR cx ρ h (.bool b) (.bool b)
  | int (i : Int) (t : Tok) : VR cx ρ h (.int i) (.int i t)
  | str (s : Str) (t : Tok) : s.length ≤ sizeLine → VR cx ρ h (.str s) (.str s t)
  | tup {a : Addr} {vs : List Value} {n : Nat} {ms : List Val} : h.get? a = some (tupO vs n) → ¬ Owned ρ a → ms.length ≤ sizeLine → VRs cx ρ h ms vs → VR cx ρ h (.tup ms) (.ref a)
  | loc {l : Nat} {p : Addr × Addr} : ρ[l]? = some p → VR cx ρ h (.loc l) (.ref p.1)
  | script {a : Addr} {vs : List Value} {n : Nat} {ns : List Int} : cx.h₀.get? a = some (listO vs n) → ns.length ≤ sizeLine → VRs cx ρ h (ns.map .int) vs → VR cx ρ h (.script ns) (.ref a)
  | rng {a : Addr} {i : Int} {t u v : Tok} : IsRange h a 0 i 1 t u v → ¬ Owned ρ a → -(2 ^ 62) ≤ i → i < 2 ^ 62 → VR cx ρ h (.rng i) (.ref a)
  | exc {a : Addr} {o : Obj} {c : Nat} {C : Addr} : h.get? a = some o → ¬ Owned ρ a → cx.cls[c]? = some (.ref C) → IsExcO o C → VR cx ρ h (.exc c) (.ref a)
inductive VRs (cx : Cx) (ρ : Rho) (h : Heap) : List Val → List Value → Prop
  | nil : VRs cx ρ h [] []
  | cons {m : Val} {v : Value} {ms : List Val} {vs : List Value} : VR cx ρ h m v → VRs cx ρ h ms vs → VRs cx ρ h (m :: ms) (v :: vs)
end
theorem VRs.step {cx : Cx} {ρ ρ' : Rho} {h h' : Heap} (st : Step ρ h ρ' h') {ms : List Val} {vs : List Value} (r : VRs cx ρ h ms vs) : VRs cx ρ' h' ms vs :=
  VRs.rec (motive_1 := fun m v _ => VR cx ρ' h' m v) (motive_2 := fun ms vs _ => VRs cx ρ' h' ms vs) .none .bool .int .str
    (fun e n z _ r => .tup (st.keepT _ _ e (.inl ⟨rfl, _, _, rfl⟩) n).1 (st.keepT _ _ e (.inl ⟨rfl, _, _, rfl⟩) n).2 z r)
    (fun e => .loc (st.get e)) (fun e z _ r => .script e z r)
    (fun e n z1 z2 => .rng (st.keepT _ _ e (.inr ⟨rfl, _, rfl⟩) n).1 (st.keepT _ _ e (.inr ⟨rfl, _, rfl⟩) n).2 z1 z2)
    (fun e n k c => (st.keepC _ _ _ e c n).elim fun o' w => .exc w.1 w.2.2 k w.2.1) .nil (fun _ _ a r => .cons a r) r
theorem VRs.head {cx : Cx} {ρ : Rho} {h : Heap} {m : Val} {v : Value} {ms : List Val} {vs : List Value} (r : VRs cx ρ h (m :: ms) (v :: vs)) : VR cx ρ h m v := by
  cases r; assumption
theorem VR.step {cx : Cx} {ρ ρ' : Rho} {h h' : Heap} (st : Step ρ h ρ' h') {m : Val} {v : Value} (x : VR cx ρ h m v) : VR cx ρ' h' m v := (VRs.step st (.cons x .nil)).head
section
variable {cx : Cx} {ρ : Rho} {h : Heap} {ms ms' : List Val} {vs vs' : List Value} {m : Val} {v : Value}
theorem VRs.length (r : VRs cx ρ h ms vs) : ms.length = vs.length := by
  induction ms generalizing vs with
  | nil => cases r; rfl
  | cons m ms ih => cases r with | cons a r => rw [List.length_cons, List.length_cons, ih r]
theorem VRs.append (r : VRs cx ρ h ms vs) (r' : VRs cx ρ h ms' vs') : VRs cx ρ h (ms ++ ms') (vs ++ vs') := by
  induction ms generalizing vs with
  | nil => cases r; exact r'
  | cons m ms ih => cases r with | cons a r => exact .cons a (ih r)
theorem VRs.get (r : VRs cx ρ h ms vs) {k : Nat} (e : ms[k]? = some m) : ∃ v, vs[k]? = some v ∧ VR cx ρ h m v := by
  induction ms generalizing vs k with
  | nil => simp at e
  | cons m' ms ih =>
    cases r with
    | cons a r =>
      cases k with
      | zero => simp at e; refine e ▸ ?_; exact ⟨_, by simp, a⟩
      | succ k => simp at e; refine ex1 (ih r e) fun v zz => aNd2 zz fun hv hr => ?_; exact ⟨v, by simpa using hv, hr⟩
theorem VRs.one (r : VR cx ρ h m v) : VRs cx ρ h [m] [v] := .cons r .nil
theorem VRs.set (r : VRs cx ρ h ms vs) (k : Nat) (a : VR cx ρ h m v) : VRs cx ρ h (ms.set k m) (vs.set k v) := by
  induction ms generalizing vs k with
  | nil => cases r; exact .nil
  | cons m' ms ih =>
    cases r with
    | cons b r =>
      cases k with
      | zero => exact .cons a r
      | succ k => exact .cons b (ih r k)
theorem VRs.take (r : VRs cx ρ h ms vs) (k : Nat) : VRs cx ρ h (ms.take k) (vs.take k) := by
  induction ms generalizing vs k with
  | nil => cases r; simp; exact .nil
  | cons m' ms ih =>
    cases r with
    | cons b r =>
      cases k with
      | zero => exact .nil
      | succ k => exact .cons b (ih r k)
theorem VRs.drop (r : VRs cx ρ h ms vs) (k : Nat) : VRs cx ρ h (ms.drop k) (vs.drop k) := by
  induction ms generalizing vs k with
  | nil => cases r; simp; exact .nil
  | cons m' ms ih =>
    cases r with
    | cons b r =>
      cases k with
      | zero => exact .cons b r
      | succ k => exact ih r k
theorem VRs.eraseIdx (r : VRs cx ρ h ms vs) (k : Nat) : VRs cx ρ h (ms.eraseIdx k) (vs.eraseIdx k) := by
  induction ms generalizing vs k with
  | nil => cases r; simp; exact .nil
  | cons m' ms ih =>
    cases r with
    | cons b r =>
      cases k with
      | zero => exact r
      | succ k => exact .cons b (ih r k)
theorem VRs.replicate (a : VR cx ρ h m v) (n : Nat) : VRs cx ρ h (List.replicate n m) (List.replicate n v) := by
  induction n with
  | zero => exact .nil
  | succ n ih => exact .cons a ih
end
noncomputable abbrev cellKind (cx : Cx) : HeapKind cx.prog cx.w (List Int) := tupleKind (intKind cx.prog cx.w)
inductive DRs (cx : Cx) (ρ : Rho) (h : Heap) : List (Key × Val) → List (List Int × Addr × Value) → Prop
  | nil : DRs cx ρ h [] []
  | cons {k : Key} {v : Val} {b : Addr} {x : Value} {es : List (Key × Val)} {xs : List (List Int × Addr × Value)} :
      VR cx ρ h v x → ¬ Owned ρ b → DRs cx ρ h es xs → DRs cx ρ h ((k, v) :: es) (([k.1, k.2], b, x) :: xs)
theorem DRs.step {cx : Cx} {ρ ρ' : Rho} {h h' : Heap} (st : Step ρ h ρ' h') {es : List (Key × Val)} {xs : List (List Int × Addr × Value)} (hk : ∀ x ∈ xs, (cellKind cx).is h x.1 x.2.1) (r : DRs cx ρ h es xs) : DRs cx ρ' h' es xs := by
  induction r with
  | nil => exact .nil
  | @cons k v b x es xs a n _ ih =>
    refine .cons (a.step st) ?_ (ih fun x hx => hk x (.tail _ hx))
    refine ex3 (hk _ (.head _)) fun o _ _ zz => aNd4 zz fun ho hc hd _ => ?_
    exact (st.keepT _ _ ho (.inl ⟨hc, _, _, hd⟩) n).2
inductive HR (cx : Cx) (ρ : Rho) (h : Heap) : HObj → Addr × Addr → Prop
  | list {a : Addr} {vs : List Value} {n : Nat} {xs : List Val} : h.get? a = some (listO vs n) → VRs cx ρ h xs vs → xs.length ≤ sizeLine → HR cx ρ h (.list xs) (a, a)
  | dict {a : Addr} {es : List (Key × Val)} {xs : List (List Int × Addr × Value)} : h.DictOfH (cellKind cx) a xs → DRs cx ρ h es xs → es.length ≤ sizeLine → HR cx ρ h (.dict es) (a, a)
  | inst {a d C : Addr} {o : Obj} {c : Nat} {fs : List (Nat × Val)} {mA : Str → Option Value} : (cx.T.meth c 0).isSome = true → cx.cls[c]? = some (.ref C) → h.get? a = some o → o.cls = .ref C → (∀ c, o.data ≠ .cls c) → o.dict = some d → d ≠ a → h.Ns1 d mA →
      (∀ n v, fs.lookup n = some v → ∃ y x, cx.attrs[n]? = some y ∧ mA y = some x ∧ VR cx ρ h v x) →
      (∀ y, mA y ≠ none → ∃ n v, cx.attrs[n]? = some y ∧ fs.lookup n = some v) →
      HR cx ρ h (.inst c fs) (a, d)
  | hid {a : Addr} {x y : Value} : h.get? a = some (tupO [x, y] 0) → HR cx ρ h .hid (a, a)
structure Rel (cx : Cx) (H : Hp) (ρ : Rho) (s : Shared) : Prop where
  len : H.length = ρ.length
  objs : ∀ (l : Nat) (o : HObj) (p : Addr × Addr), H[l]? = some o → ρ[l]? = some p → HR cx ρ s.heap o p
  apart : ∀ (i j : Nat) (p q : Addr × Addr), i ≠ j → ρ[i]? = some p → ρ[j]? = some q → (p.1 ≠ q.1 ∧ p.1 ≠ q.2) ∧ (p.2 ≠ q.1 ∧ p.2 ≠ q.2)
  new : ∀ p ∈ ρ, cx.h₀.get? p.1 = none ∧ cx.h₀.get? p.2 = none
  base : ∀ b o, cx.h₀.get? b = some o → s.heap.get? b = some o
  sys : ∃ o, cx.h₀.get? sysModules = some o
  rest : ∃ h tk, s = { cx.s₀ with heap := h, toks := tk }
theorem Rel.size {cx : Cx} {H : Hp} {ρ : Rho} {s : Shared} (R : Rel cx H ρ s) : ∀ p ∈ ρ, (∃ o, s.heap.get? p.1 = some o) ∧ ∃ o, s.heap.get? p.2 = some o := by
  intro p hp
  refine ex1 (List.mem_iff_getElem.mp hp) fun l zz => ex1 zz fun hl e => ?_
  have e' : ρ[l]? = some p := by rw [List.getElem?_eq_getElem hl, e]
  have hH : l < H.length := by rw [R.len]; exact hl
  obtain ⟨ob, hob⟩ : ∃ ob, H[l]? = some ob := ⟨_, List.getElem?_eq_getElem hH⟩
  have := R.objs l ob p hob e'
  clear e e'
  cases this with
  | list q _ _ => exact ⟨⟨_, q⟩, _, q⟩
  | dict q _ _ => refine ex3 q fun o _ _ zz => aNd2 zz fun q _ => ?_; exact ⟨⟨_, q⟩, _, q⟩
  | inst _ _ q _ _ _ _ n _ _ => refine ex3 n fun o' _ _ zz => aNd2 zz fun q' _ => ?_; exact ⟨⟨_, q⟩, _, q'⟩
  | hid q => exact ⟨⟨_, q⟩, _, q⟩
theorem Rel.owned_lt {cx : Cx} {H : Hp} {ρ : Rho} {s : Shared} (R : Rel cx H ρ s) {a : Addr} (o : Owned ρ a) : ∃ o, s.heap.get? a = some o := by
  obtain ⟨p, hp, rfl | rfl⟩ := o
  · exact (R.size p hp).1
  · exact (R.size p hp).2
theorem Rel.owned_new {cx : Cx} {H : Hp} {ρ : Rho} {s : Shared} (R : Rel cx H ρ s) {a : Addr} (o : Owned ρ a) : cx.h₀.get? a = none := by
  obtain ⟨p, hp, rfl | rfl⟩ := o
  · exact (R.new p hp).1
  · exact (R.new p hp).2
theorem Rel.base_not {cx : Cx} {H : Hp} {ρ : Rho} {s : Shared} (R : Rel cx H ρ s) {a : Addr} {o : Obj} (e : cx.h₀.get? a = some o) : ¬ Owned ρ a := fun w => by rw [R.owned_new w] at e; exact nomatch e
theorem HR.step {cx : Cx} {ρ ρ' : Rho} {h h' : Heap} {o : HObj} {p : Addr × Addr} (x : HR cx ρ h o p) (st : Step ρ h ρ' h') (k : ∀ b ob, (b = p.1 ∨ b = p.2) → h.get? b = some ob → h'.get? b = some ob) : HR cx ρ' h' o p := by
  cases x with
  | list e r z => exact .list (k _ _ (.inl rfl) e) (r.step st) z
  | @dict a es xs D r z =>
    obtain ⟨ob, es', ep, e, ex, d, el, ks, nd⟩ := D
    have ks' : ∀ x ∈ xs, (cellKind cx).is h' x.1 x.2.1 := by
      intro x hx
      obtain ⟨ok, items, n, hk, hc, hd', rest⟩ := ks x hx
      refine ⟨ok, items, n, (st.keepT _ _ hk (.inl ⟨hc, _, _, hd'⟩) ?_).1, hc, hd', rest⟩
      clear rest el nd z ks d ex e k
      induction r with
      | nil => cases hx
      | cons a n _ ih =>
        cases hx with
        | head => exact n
        | tail _ hx => exact ih hx
    exact .dict ⟨ob, es', ep, k _ _ (.inl rfl) e, ex, d, el, ks', nd⟩ (r.step st ks) z
  | hid e => exact .hid (k _ _ (.inl rfl) e)
  | inst c0 c e k1 k2 k3 k4 n f g =>
    refine .inst c0 c (k _ _ (.inl rfl) e) k1 k2 k3 k4 (n.at fun o e => k _ _ (.inr rfl) e) (fun i v hv => ?_) g
    refine hideG fun G kG => ?_
    obtain ⟨y, x, h1, h2, h3⟩ := f i v hv
    refine kG ?_
    exact ⟨y, x, h1, h2, h3.step st⟩
section
variable {cx : Cx} {H : Hp} {ρ : Rho} {s : Shared}
theorem Rel.same (R : Rel cx H ρ s) {h' : Heap} {tk : Nat} (st : Step ρ s.heap ρ h') (ko : ∀ b o, Owned ρ b → s.heap.get? b = some o → h'.get? b = some o) (kb : ∀ b o, cx.h₀.get? b = some o → h'.get? b = some o) :
    Rel cx H ρ { s with heap := h', toks := tk } := by
  refine ⟨R.len, fun l o p hl hp => ?_, R.apart, R.new, kb, R.sys, ?_⟩
  · refine (R.objs l o p hl hp).step st fun b ob hb e => ko b ob ⟨p, List.mem_of_getElem? hp, hb⟩ e
  · refine ex2 R.rest fun h t hr0 => ?_; refine Eq.symm hr0 ▸ ?_
    exact ⟨h', tk, rfl⟩
theorem Rel.toks (R : Rel cx H ρ s) (tk : Nat) : Rel cx H ρ { s with toks := tk } :=
  R.same (h' := s.heap) (Step.refl _ _) (fun _ _ _ e => e) R.base
theorem Rel.more (R : Rel cx H ρ s) {h' : Heap} {tk : Nat} (k : ∀ b o, s.heap.get? b = some o → h'.get? b = some o) : Rel cx H ρ { s with heap := h', toks := tk } :=
  R.same (Full.more k).step (fun b o _ e => k b o e) fun b o e => k b o (R.base b o e)
theorem Rel.push (R : Rel cx H ρ s) (o : Obj) (tk : Nat) : Rel cx H ρ { s with heap := s.heap.push o, toks := tk } :=
  R.more fun _ _ e => Heap.get?_push_of_some _ e
theorem Rel.but (R : Rel cx H ρ s) {h' : Heap} {tk : Nat} {a : Addr} {o : Obj} {o' : Obj} (e' : h'.get? a = some o') (e : s.heap.get? a = some o) (hs : Heap.SameBut a s.heap h') (n1 : ¬ Fixed o) (n2 : ∀ C, ¬ IsExcO o C) (no : ¬ Owned ρ a) (nb : cx.h₀.get? a = none) :
    Rel cx H ρ { s with heap := h', toks := tk } :=
  R.same (Step.but e' e hs n1 n2) (fun b ob ho eb => by rw [hs.2 b (fun q => no (q ▸ ho))]; exact eb) fun b ob eb => by
    rw [hs.2 b (fun q => by subst q; rw [nb] at eb; exact nomatch eb)]; exact R.base b ob eb
theorem Rel.fresh_not (R : Rel cx H ρ s) {a : Addr} (ha : s.heap.get? a = none) : ¬ Owned ρ a := fun w => by obtain ⟨o, e⟩ := R.owned_lt w; rw [ha] at e; cases e
theorem Rel.alloc (R : Rel cx H ρ s) {h' : Heap} {tk : Nat} {o : HObj} {p : Addr × Addr} (k : ∀ b o, s.heap.get? b = some o → h'.get? b = some o)
    (hp : s.heap.get? p.1 = none ∧ s.heap.get? p.2 = none) (x : HR cx (ρ ++ [p]) h' o p) : Full ρ s.heap (ρ ++ [p]) h' ∧ Rel cx (H ++ [o]) (ρ ++ [p]) { s with heap := h', toks := tk } := by
  have F : Full ρ s.heap (ρ ++ [p]) h' := ⟨⟨[p], rfl, fun q hq => by rw [List.mem_singleton.mp hq]; exact hp⟩, fun b o e _ => ⟨o, k b o e, .refl o⟩, fun b o e => ⟨o, k b o e⟩⟩
  refine ⟨F, ⟨by rw [List.length_append, List.length_append, R.len]; rfl, fun l ob q hl hq => ?_, fun i j q r hij hi hj => ?_, fun q hq => ?_, fun b o e => k b o (R.base b o e), R.sys, ?_⟩⟩
  · by_cases lt : l < H.length
    · rw [List.getElem?_append_left lt] at hl
      rw [List.getElem?_append_left (by rw [← R.len]; exact lt)] at hq
      exact (R.objs l ob q hl hq).step F.step fun b ob _ e => k b ob e
    · have hl' := (List.getElem?_eq_some_iff.mp hl).1
      have le : l = H.length := by rw [List.length_append] at hl'; simp at hl'; exact o1 hl' lt
      subst le
      rw [List.getElem?_append_right (Nat.le_refl _)] at hl
      rw [List.getElem?_append_right (by rw [R.len]; exact Nat.le_refl _)] at hq
      rw [R.len] at hq
      simp at hl hq
      subst hl hq
      exact x
  · have old : ∀ {i : Nat} {q : Addr × Addr}, ρ[i]? = some q → (∃ o, s.heap.get? q.1 = some o) ∧ ∃ o, s.heap.get? q.2 = some o := fun h => R.size _ (List.mem_of_getElem? h)
    have ne : ∀ {a b : Addr}, (∃ o, s.heap.get? a = some o) → s.heap.get? b = none → a ≠ b := fun ⟨o, e⟩ n q => by rw [q, n] at e; exact nomatch e
    have at' : ∀ {i : Nat} {q : Addr × Addr}, (ρ ++ [p])[i]? = some q → ρ[i]? = some q ∨ (i = ρ.length ∧ q = p) := by
      intro i q h
      by_cases lt : i < ρ.length
      · rw [List.getElem?_append_left lt] at h; exact .inl h
      · have hl' := (List.getElem?_eq_some_iff.mp h).1
        have le : i = ρ.length := by rw [List.length_append] at hl'; simp at hl'; exact o1 hl' lt
        subst le
        rw [List.getElem?_append_right (Nat.le_refl _)] at h
        simp at h
        exact .inr ⟨rfl, h.symm⟩
    rcases at' hi with hi' | ⟨hi', eq⟩ <;> rcases at' hj with hj' | ⟨hj', er⟩
    · exact R.apart i j q r hij hi' hj'
    · have q := old hi'; rw [er]; exact ⟨⟨ne q.1 hp.1, ne q.1 hp.2⟩, ne q.2 hp.1, ne q.2 hp.2⟩
    · have q := old hj'; rw [eq]; exact ⟨⟨(ne q.1 hp.1).symm, (ne q.2 hp.1).symm⟩, (ne q.1 hp.2).symm, (ne q.2 hp.2).symm⟩
    · exact absurd (hi'.trans hj'.symm) hij
  · rcases List.mem_append.mp hq with hq | hq
    · exact R.new q hq
    · have lv : Live cx.h₀ s.heap := fun b o e => ⟨o, R.base b o e⟩
      rw [List.mem_singleton.mp hq]; exact ⟨lv.none hp.1, lv.none hp.2⟩
  · refine ex2 R.rest fun h t hr0 => ?_; refine Eq.symm hr0 ▸ ?_
    exact ⟨h', tk, rfl⟩
theorem Rel.set (R : Rel cx H ρ s) {l : Nat} {h' : Heap} {tk : Nat} {o : HObj} {p : Addr × Addr} (hl : ρ[l]? = some p) (k : ∀ b o, s.heap.get? b = some o → b ≠ p.1 → b ≠ p.2 → h'.get? b = some o) (z : Live s.heap h')
    (x : HR cx ρ h' o p) : Full ρ s.heap ρ h' ∧ Rel cx (H.set l o) ρ { s with heap := h', toks := tk } := by
  have own : ∀ b, ¬ Owned ρ b → b ≠ p.1 ∧ b ≠ p.2 := fun b n => ⟨fun e => n ⟨p, List.mem_of_getElem? hl, .inl e⟩, fun e => n ⟨p, List.mem_of_getElem? hl, .inr e⟩⟩
  have F : Full ρ s.heap ρ h' := ⟨Grow.refl _ _, fun b ob e n => ⟨ob, k b ob e (own b n).1 (own b n).2, .refl ob⟩, z⟩
  refine ⟨F, ⟨by rw [List.length_set, R.len], fun i ob q hi hq => ?_, R.apart, R.new, fun b ob e => ?_, R.sys, ?_⟩⟩
  · by_cases e : i = l
    · subst e
      rw [hl] at hq; cases hq
      have lt : i < H.length := by rw [R.len]; exact (List.getElem?_eq_some_iff.mp hl).1
      rw [List.getElem?_set_self lt] at hi
      cases hi; exact x
    · rw [List.getElem?_set_ne (fun q => e q.symm)] at hi
      refine (R.objs i ob q hi hq).step F.step fun b ob' hb eb => ?_
      refine aNd3 (R.apart i l q p e hq hl) fun zn0 a3 a4 => ?_; obtain ⟨a1, a2⟩ := zn0
      rcases hb with rfl | rfl
      · exact k _ _ eb a1 a2
      · exact k _ _ eb a3 a4
  · have n := R.base_not e
    exact k b ob (R.base b ob e) (own b n).1 (own b n).2
  · refine ex2 R.rest fun h t hr0 => ?_; refine Eq.symm hr0 ▸ ?_
    exact ⟨h', tk, rfl⟩
end
end Mine
-- part MSim
namespace Mine
open PySem
structure Amb where
  P : Rho → Heap → Prop
  st : ∀ ρ h ρ' h', P ρ h → Full ρ h ρ' h' → P ρ' h'
noncomputable def Amb.and (P Q : Amb) : Amb := ⟨fun ρ h => P.P ρ h ∧ Q.P ρ h, fun ρ h ρ' h' x f => ⟨P.st _ _ _ _ x.1 f, Q.st _ _ _ _ x.2 f⟩⟩
noncomputable def Amb.tt : Amb := ⟨fun _ _ => True, fun _ _ _ _ _ _ => trivial⟩
noncomputable def Amb.prop (p : Prop) : Amb := ⟨fun _ _ => p, fun _ _ _ _ x _ => x⟩
noncomputable def Amb.vr (cx : Cx) (m : Val) (v : Value) : Amb := ⟨fun ρ h => VR cx ρ h m v, fun _ _ _ _ x f => x.step f.step⟩
noncomputable def Amb.vrs (cx : Cx) (ms : List Val) (vs : List Value) : Amb := ⟨fun ρ h => VRs cx ρ h ms vs, fun _ _ _ _ x f => x.step f.step⟩
structure Flying (cx : Cx) (ρ : Rho) (h h' : Heap) (c : Nat) (e : Value) : Prop where
  is : ∃ (a C : Addr) (vs : Array Value), e = .ref a ∧ cx.cls[c]? = some (.ref C) ∧ h.get? a = none ∧ h'.get? a = some { cls := .ref C, dict := none, data := .fields vs, slots := #[] } ∧ vs.size = 6 ∧ ¬ Owned ρ a ∧
    (vs[1]? = some .none ∨ ∃ (tb : Addr) (tvs : Array Value), vs[1]? = some (.ref tb) ∧ h.get? tb = none ∧ h'.get? tb = some { cls := .type "traceback", dict := none, data := .fields tvs, slots := #[] } ∧ tvs.size = 11 ∧ ¬ Owned ρ tb)
theorem Flying.older {cx : Cx} {ρ : Rho} {h₁ h h' : Heap} {c : Nat} {e : Value} (x : Flying cx ρ h h' c e) (z : Live h₁ h) : Flying cx ρ h₁ h' c e := by
  refine ex3 x.is fun a C vs zz => aNd7 zz fun e1 e2 e3 e4 e5 e6 e7 => ?_
  refine ⟨a, C, vs, e1, e2, z.none e3, e4, e5, e6, ?_⟩
  rcases e7 with e7 | ⟨tb, tvs, f1, f2, f3⟩
  · exact .inl e7
  · exact .inr ⟨tb, tvs, f1, z.none f2, f3⟩
noncomputable def SimAt {α β : Type} (cx : Cx) (A : Around) (r : Res β) (t : Sem α) (V : β → α → Amb) (ρ : Rho) (s : Shared) : Prop :=
  match r with
  | .bad => True
  | .ok b H' => wpAny (model cx.prog cx.w) A t (fun a s' => ∃ ρ', Full ρ s.heap ρ' s'.heap ∧ Rel cx H' ρ' s' ∧ (V b a).P ρ' s'.heap) (fun _ _ => False) s
  | .exc c H' => wpAny (model cx.prog cx.w) A t (fun _ _ => False) (fun e s' => ∃ ρ', Full ρ s.heap ρ' s'.heap ∧ Rel cx H' ρ' s' ∧ Flying cx ρ' s.heap s'.heap c e) s
noncomputable def Sim {α β : Type} (cx : Cx) (A : Around) (P : Amb) (t : Sem α) (m : M β) (V : β → α → Amb) : Prop :=
  ∀ (H : Hp) (ρ : Rho) (s : Shared), Rel cx H ρ s → P.P ρ s.heap → SimAt cx A (m H) t V ρ s
section
variable {α β γ δ : Type} {cx : Cx} {A : Around} {P : Amb} {t : Sem α} {m : M β} {V : β → α → Amb}
theorem SimAt.bind {f : α → Sem γ} {g : β → M δ} {W : δ → γ → Amb} {ρ : Rho} {s : Shared} {H : Hp} (x : SimAt cx A (m H) t V ρ s)
    (y : ∀ b a H' ρ' s', m H = .ok b H' → Full ρ s.heap ρ' s'.heap → Rel cx H' ρ' s' → (V b a).P ρ' s'.heap → SimAt cx A (g b H') (f a) W ρ' s') :
    SimAt cx A (m.bnd g H) (t >>= f) W ρ s := by
  cases e : m H with
  | bad => rw [bnd_bad e]; trivial
  | exc c H' =>
    rw [bnd_exc e]
    rw [e] at x
    exact wpAny_bind (wpAny_mono x (fun _ _ q => q.elim) fun _ _ q => q)
  | ok b H' =>
    rw [bnd_ok e]
    rw [e] at x
    have y' := y b
    cases e2 : g b H' with
    | bad => trivial
    | exc c H'' =>
      refine wpAny_bind (wpAny_mono x (fun a s' ⟨ρ', F, R, v⟩ => ?_) fun _ _ q => q.elim)
      have z := y b a H' ρ' s' e F R v
      rw [e2] at z
      exact wpAny_mono z (fun _ _ q => q) fun e s'' ⟨ρ'', F', R', fl⟩ => ⟨ρ'', F.trans F', R', fl.older F.live⟩
    | ok d H'' =>
      refine wpAny_bind (wpAny_mono x (fun a s' ⟨ρ', F, R, v⟩ => ?_) fun _ _ q => q.elim)
      have z := y b a H' ρ' s' e F R v
      rw [e2] at z
      exact wpAny_mono z (fun a' s'' ⟨ρ'', F', R', w⟩ => ⟨ρ'', F.trans F', R', w⟩) fun _ _ q => q.elim
theorem Sim.bind {f : α → Sem γ} {g : β → M δ} {W : δ → γ → Amb} (x : Sim cx A P t m V) (y : ∀ b a, Sim cx A (P.and (V b a)) (f a) (g b) W) : Sim cx A P (t >>= f) (m.bnd g) W :=
  fun H ρ s R p => SimAt.bind (x H ρ s R p) fun b a H' ρ' s' _ F R' v => y b a H' ρ' s' R' ⟨P.st _ _ _ _ p F, v⟩
noncomputable def SimK {α β : Type} (cx : Cx) (r : Res β) (K : (α → Shared → Prop) → (Value → Shared → Prop) → Shared → Prop) (V : β → α → Amb) (ρ : Rho) (s : Shared) : Prop :=
  match r with
  | .bad => True
  | .ok b H' => K (fun a s' => ∃ ρ', Full ρ s.heap ρ' s'.heap ∧ Rel cx H' ρ' s' ∧ (V b a).P ρ' s'.heap) (fun _ _ => False) s
  | .exc c H' => K (fun _ _ => False) (fun e s' => ∃ ρ', Full ρ s.heap ρ' s'.heap ∧ Rel cx H' ρ' s' ∧ Flying cx ρ' s.heap s'.heap c e) s
theorem SimK.of {r : Res β} {ρ : Rho} {s : Shared} (x : SimAt cx A r t V ρ s) : SimK cx r (fun Q E s => wpAny (model cx.prog cx.w) A t Q E s) V ρ s := x
noncomputable def MonoK {α : Type} (K : (α → Shared → Prop) → (Value → Shared → Prop) → Shared → Prop) : Prop :=
  ∀ Q E Q' E' s, K Q E s → (∀ a s, Q a s → Q' a s) → (∀ e s, E e s → E' e s) → K Q' E' s
theorem SimAt.bindK {g : β → M δ} {W : δ → γ → Amb} {ρ : Rho} {s : Shared} {H : Hp} {K : α → (γ → Shared → Prop) → (Value → Shared → Prop) → Shared → Prop} {K' : (γ → Shared → Prop) → (Value → Shared → Prop) → Shared → Prop} (x : SimAt cx A (m H) t V ρ s)
    (y : ∀ b a H' ρ' s', m H = .ok b H' → Full ρ s.heap ρ' s'.heap → Rel cx H' ρ' s' → (V b a).P ρ' s'.heap → SimK cx (g b H') (K a) W ρ' s')
    (mk : ∀ a, MonoK (K a))
    (k : ∀ Q E, wpAny (model cx.prog cx.w) A t (fun a s' => K a Q E s') E s → K' Q E s) :
    SimK cx (m.bnd g H) K' W ρ s := by
  cases e : m H with
  | bad => rw [bnd_bad e]; trivial
  | exc c H' =>
    rw [bnd_exc e]
    rw [e] at x
    exact k _ _ (wpAny_mono x (fun _ _ q => q.elim) fun _ _ q => q)
  | ok b H' =>
    rw [bnd_ok e]
    rw [e] at x
    cases e2 : g b H' with
    | bad => trivial
    | exc c H'' =>
      refine k _ _ (wpAny_mono x (fun a s' ⟨ρ', F, R, v⟩ => ?_) fun _ _ q => q.elim)
      have z := y b a H' ρ' s' e F R v
      rw [e2] at z
      exact mk a _ _ _ _ _ z (fun _ _ q => q) fun e s'' ⟨ρ'', F', R', fl⟩ => ⟨ρ'', F.trans F', R', fl.older F.live⟩
    | ok d H'' =>
      refine k _ _ (wpAny_mono x (fun a s' ⟨ρ', F, R, v⟩ => ?_) fun _ _ q => q.elim)
      have z := y b a H' ρ' s' e F R v
      rw [e2] at z
      exact mk a _ _ _ _ _ z (fun a' s'' ⟨ρ'', F', R', w⟩ => ⟨ρ'', F.trans F', R', w⟩) fun _ _ q => q.elim
theorem SimK.lookK {ρ : Rho} {s : Shared} {H : Hp} {f : Hp → Option β} {g : β → M δ} {W : δ → γ → Amb} {K : (γ → Shared → Prop) → (Value → Shared → Prop) → Shared → Prop} (y : ∀ b, f H = some b → SimK cx (g b H) K W ρ s) : SimK cx ((M.look f).bnd g H) K W ρ s := by
  cases e : f H with
  | none => rw [bnd_bad (show M.look f H = .bad by unfold M.look; rw [e])]; trivial
  | some b => rw [bnd_ok (show M.look f H = .ok b H by unfold M.look; rw [e])]; exact y b e
theorem SimK.mono {r : Res β} {ρ : Rho} {s : Shared} {K K' : (α → Shared → Prop) → (Value → Shared → Prop) → Shared → Prop} (x : SimK cx r K V ρ s) (k : ∀ Q E, K Q E s → K' Q E s) : SimK cx r K' V ρ s := by
  cases r with
  | bad => trivial
  | exc c H' => exact k _ _ x
  | ok b H' => exact k _ _ x
theorem Sim.pre {t' : Sem α} (x : Sim cx A P t m V) (k : ∀ (Q : α → Shared → Prop) (E : Value → Shared → Prop) (s : Shared), wpAny (model cx.prog cx.w) A t Q E s → wpAny (model cx.prog cx.w) A t' Q E s) : Sim cx A P t' m V := by
  intro H ρ s R p
  have z := x H ρ s R p
  cases e : m H with
  | bad => trivial
  | exc c H' => rw [e] at z; exact k _ _ _ z
  | ok b H' => rw [e] at z; exact k _ _ _ z
theorem Sim.holding {vs : List Value} (x : Sim cx A P t m V) : Sim cx A P (holding vs t) m V := x.pre fun _ _ _ h => wpAny_holding h
theorem Sim.stand {pos : Pos} {k : Unit → Sem α} (x : Sim cx A P (k ()) m V) : Sim cx A P (standAt pos >>= k) m V := x.pre fun _ _ _ h => wpAny_bind (wpAny_standAt h)
theorem Sim.weak {P' : Amb} (x : Sim cx A P t m V) (k : ∀ ρ h, P'.P ρ h → P.P ρ h) : Sim cx A P' t m V := fun H ρ s R p => x H ρ s R (k _ _ p)
theorem Sim.ret {a : α} {b : β} (k : ∀ ρ h, P.P ρ h → (V b a).P ρ h) : Sim cx A P (pure a) (M.ret b) V :=
  fun H ρ s R p => wpAny_pure ⟨ρ, Full.refl _ _, R, k _ _ p⟩
theorem Sim.bad : Sim cx A P t (M.bad : M β) V := fun _ _ _ _ _ => trivial
theorem Sim.look {f : Hp → Option β} (k : ∀ (H : Hp) (ρ : Rho) (s : Shared) (b : β), Rel cx H ρ s → P.P ρ s.heap → f H = some b →
    ∀ (Q : α → Shared → Prop) (E : Value → Shared → Prop), (∀ a tk, (V b a).P ρ s.heap → Q a { s with toks := tk }) → wpAny (model cx.prog cx.w) A t Q E s) : Sim cx A P t (M.look f) V := by
  intro H ρ s R p
  show SimAt cx A (match f H with | some a => Res.ok a H | none => Res.bad) t V ρ s
  cases e : f H with
  | none => trivial
  | some b => exact k H ρ s b R p e _ _ fun a tk v => ⟨ρ, Full.refl _ _, R.toks tk, v⟩
end
noncomputable def VarIs (env : Env) (h : Heap) (y : Str) (v : Value) : Prop :=
  (env.kindOf y = some .local ∧ ∃ m, h.Ns env.locals m ∧ m y = some v) ∨
  ((env.kindOf y = some .cell ∨ env.kindOf y = some .free) ∧ ∃ c, env.cells.lookup y = some c ∧ h.IsCell c (some v))
noncomputable def KindOk : NameKind → Option NameKind → Prop
  | .local, k => k = some .local
  | .cell, k => k = some .cell
  | .free, k => k = some .free ∨ k = some .cell
  | .globalImplicit, k => k = some .globalImplicit
  | _, _ => True
structure EnvSt (cx : Cx) (env : Env) (sc : Scope) (ρ : Rho) (h : Heap) : Prop where
  fn : env.scope.kind = .function
  glob : env.globals = mainGlobals
  blt : env.builtins = builtinsNs
  kinds : ∀ y k, sc.names.lookup y = some k → KindOk k (env.kindOf y)
  loc : ∃ m, h.Ns env.locals m
  locN : ¬ Owned ρ env.locals
  locB : cx.h₀.get? env.locals = none
  cells : ∀ y c, env.cells.lookup y = some c → (∃ v, h.IsCell c v) ∧ ¬ Owned ρ c ∧ cx.h₀.get? c = none
  hasCell : ∀ y, sc.names.lookup y = some .cell ∨ sc.names.lookup y = some .free → ∃ c, env.cells.lookup y = some c
  apart : ∀ y z c, env.cells.lookup y = some c → env.cells.lookup z = some c → y = z
structure EnvOk (cx : Cx) (env : Env) (sc : Scope) (ns : List (Option Str)) (Γ : Env') (ρ : Rho) (h : Heap) : Prop where
  st : EnvSt cx env sc ρ h
  len : Γ.length = ns.length
  vals : ∀ (i : Nat) (y : Str) (mv : Val), ns[i]? = some (some y) → Γ[i]? = some (some mv) → ∃ v, VarIs env h y v ∧ VR cx ρ h mv v
theorem Heap_Ns_keep {h h' : Heap} {a : Addr} {m : Str → Option Value} (n : h.Ns a m) (k : ∀ o, h.get? a = some o → ∃ o', h'.get? a = some o' ∧ o'.data = o.data) : h'.Ns a m := by
  refine ex3 n fun o es ep zz => aNd3 zz fun e d r => ?_
  refine ex1 (k o e) fun o' zz => aNd2 zz fun e' d' => ?_
  exact ⟨o', es, ep, e', d'.trans d, r⟩
theorem Full.data {ρ ρ' : Rho} {h h' : Heap} (F : Full ρ h ρ' h') {a : Addr} (n : ¬ Owned ρ a) : ∀ o, h.get? a = some o → ∃ o', h'.get? a = some o' ∧ o'.data = o.data := fun o e => by
  refine ex1 (F.keep a o e n) fun o' zz => aNd2 zz fun e' u => ?_
  exact ⟨o', e', u.data⟩
theorem IsCell_keep {h h' : Heap} {c : Addr} {v : Option Value} (x : h.IsCell c v) (k : ∀ o, h.get? c = some o → ∃ o', h'.get? c = some o' ∧ o'.data = o.data) : h'.IsCell c v := by
  refine ex1 x fun o zz => aNd2 zz fun e d => ?_
  refine ex1 (k o e) fun o' zz => aNd2 zz fun e' d' => ?_
  exact ⟨o', e', d'.trans d⟩
theorem EnvSt.full {cx : Cx} {env : Env} {sc : Scope} {ρ ρ' : Rho} {h h' : Heap} (x : EnvSt cx env sc ρ h) (F : Full ρ h ρ' h') : EnvSt cx env sc ρ' h' := by
  refine hideG fun G kG => ?_
  obtain ⟨m, hm⟩ := x.loc
  refine ex3 (id hm) fun o es ep zz => aNd3 zz fun e d r => ?_
  refine kG ?_
  refine ⟨x.fn, x.glob, x.blt, x.kinds, ⟨m, Heap_Ns_keep hm (F.data x.locN)⟩, F.grow.not x.locN e, x.locB, fun y c hc => ?_, x.hasCell, x.apart⟩
  refine hideG fun G kG => ?_
  refine aNd3 (x.cells y c hc) fun zn0 n b => ?_; obtain ⟨v, hv⟩ := zn0
  refine ex1 (id hv) fun o zz => aNd2 zz fun e _ => ?_
  refine kG ?_
  exact ⟨⟨v, IsCell_keep hv (F.data n)⟩, F.grow.not n e, b⟩
theorem VarIs.full {cx : Cx} {env : Env} {sc : Scope} {ρ ρ' : Rho} {h h' : Heap} {y : Str} {v : Value} (x : EnvSt cx env sc ρ h) (F : Full ρ h ρ' h') (q : VarIs env h y v) : VarIs env h' y v := by
  rcases q with ⟨k, m, hm, e⟩ | ⟨k, c, hc, e⟩
  · exact .inl ⟨k, m, Heap_Ns_keep hm (F.data x.locN), e⟩
  · exact .inr ⟨k, c, hc, IsCell_keep e (F.data (x.cells y c hc).2.1)⟩
theorem EnvOk.full {cx : Cx} {env : Env} {sc : Scope} {ns : List (Option Str)} {Γ : Env'} {ρ ρ' : Rho} {h h' : Heap} (x : EnvOk cx env sc ns Γ ρ h) (F : Full ρ h ρ' h') : EnvOk cx env sc ns Γ ρ' h' :=
  ⟨x.st.full F, x.len, fun i y mv hi hm => by
    refine ex1 (x.vals i y mv hi hm) fun v zz => aNd2 zz fun hv r => ?_
    exact ⟨v, hv.full x.st F, r.step F.step⟩⟩
noncomputable def Amb.env (cx : Cx) (env : Env) (sc : Scope) (ns : List (Option Str)) (Γ : Env') : Amb := ⟨fun ρ h => EnvOk cx env sc ns Γ ρ h, fun _ _ _ _ x F => x.full F⟩
noncomputable def FramesOk (cx : Cx) (l : List Env) (ρ : Rho) (h : Heap) : Prop :=
  ∀ env ∈ l, env.scope.kind ≠ .module ∧ ∃ L o, env.frame = some L ∧ cx.h₀.get? L = none ∧ h.get? L = some o ∧ (∃ es n, o.data = .dict es n) ∧ ¬ Owned ρ L
theorem FramesOk.full {cx : Cx} {l : List Env} {ρ ρ' : Rho} {h h' : Heap} (x : FramesOk cx l ρ h) (F : Full ρ h ρ' h') : FramesOk cx l ρ' h' := fun env he => by
  refine hideG fun G kG => ?_
  refine aNd2 (x env he) fun k zz => ex2 zz fun L o zz => aNd5 zz fun h1 h2 h3 h5 h6 => ?_
  refine ex1 (F.keep L o h3 h6) fun o' zz => aNd2 zz fun e' u => ?_
  refine kG ?_
  exact ⟨k, L, o', h1, h2, e', by rw [u.data]; exact h5, F.grow.not h6 h3⟩
noncomputable def Amb.frames (cx : Cx) (l : List Env) : Amb := ⟨fun ρ h => FramesOk cx l ρ h, fun _ _ _ _ x F => x.full F⟩
structure Room (A : Around) (d : Nat) : Prop where
  hh : A.handled = none
  depth : A.depth + 5 * d + 150 < recursionLimit
  units : A.units + 20 * d + 100 < cLine
structure RoomF (A : Around) (d : Nat) : Prop where
  hh : A.handled = none
  depth : A.depth + 5 * d + 147 < recursionLimit
  units : A.units + 20 * d + 90 < cLine
structure RoomQ (A : Around) (d : Nat) : Prop where
  depth : A.depth + 5 * d + 147 < recursionLimit
  units : A.units + 20 * d + 90 < cLine
theorem RoomF.q {A : Around} {d : Nat} (r : RoomF A d) : RoomQ A d := ⟨r.depth, r.units⟩
theorem Room.toF {A : Around} {d : Nat} (r : Room A d) : RoomF A d := ⟨r.hh, by have := r.depth; exact o2 this, by have := r.units; exact o3 this⟩
theorem Room.in1 {A : Around} {d : Nat} (r : Room A (d + 1)) : Room A.in1 d := ⟨r.hh, by have := r.depth; simp only [Around.in1_depth]; exact o4 this, by have := r.units; simp only [Around.in1_units]; exact o5 this⟩
end Mine
-- part MCk
namespace Mine
open PySem
noncomputable def bltTab : List (Str × Value) := [("len", .builtin "len"), ("range", .type "range"), ("isinstance", .builtin "isinstance"), ("list", .type "list"), ("tuple", .type "tuple"), ("int", .type "int"), ("bool", .type "bool"), ("str", .type "str"),
  ("zip", .type "zip"), ("enumerate", .type "enumerate"), ("sorted", .builtin "sorted"), ("min", .builtin "min"), ("max", .builtin "max"), ("abs", .builtin "abs"), ("set", .type "set")]
structure Names where
  funs : List (Str × Nat)
  clss : List (Str × Nat)
  globs : List (Str × Nat)
  attrs : List (Str × Nat)
  meths : List (Str × Nat)
noncomputable def isGlob (sc : Scope) (x : Str) : Bool :=
  (match sc.names.lookup x with
   | some .globalImplicit => true
   | _ => false) && !(x == ("__debug__" : Str))
noncomputable def isVar (sc : Scope) (ns : List (Option Str)) (i : Nat) (x : Str) : Bool :=
  (match sc.names.lookup x with
   | some .local => true
   | some .cell => true
   | some .free => true
   | _ => false) && (match ns[i]? with
   | some (some y) => decide (y = x)
   | _ => false) && !(x == ("__debug__" : Str)) && !(x == ("__classdict__" : Str))
noncomputable def isOwn (sc : Scope) (ns : List (Option Str)) (i : Nat) (x : Str) : Bool :=
  (match sc.names.lookup x with
   | some .local => true
   | some .cell => true
   | _ => false) && (match ns[i]? with
   | some (some y) => decide (y = x)
   | _ => false)
noncomputable def hasNo (l : List (Str × Nat)) (x : Str) (k : Nat) : Bool :=
  match l.lookup x with
  | some j => decide (j = k)
  | none => false
noncomputable def bOp : BOp → Operator
  | .add => .Add
  | .sub => .Sub
  | .mul => .Mult
  | .fdiv => .FloorDiv
  | .mod => .Mod
noncomputable def opOk (b : BOp) (o : Operator) : Bool := decide (bOp b = o)
noncomputable def cmOp : COp → CmpOp
  | .eq => .Eq
  | .ne => .NotEq
  | .lt => .Lt
  | .le => .LtE
  | .gt => .Gt
  | .is => .Is
  | .isNot => .IsNot
  | .isin => .In
  | .notin => .NotIn
noncomputable def notSuper : Expr → Bool
  | .Call (.Name x _) _ _ _ => !(x == ("super" : Str))
  | _ => true
noncomputable def notSet : Expr → Bool
  | .Set .. => false
  | _ => true
noncomputable def bfName : BF → Str × Nat
  | .len => ("len", 1)
  | .range => ("range", 1)
  | .list => ("list", 1)
  | .sorted => ("sorted", 1)
  | .sortedSet => ("", 0)
noncomputable def bmName : BM → Str × Nat
  | .append => ("append", 1)
  | .dpop => ("pop", 1)
  | .remove => ("remove", 1)
  | .rstrip => ("rstrip", 0)
noncomputable def tyName : Ty → Str
  | .int => "int"
  | .bool => "bool"
  | .str => "str"
  | .tuple => "tuple"
  | .list => "list"
  | .cls _ => ""
noncomputable def inner (csc : Scope) (ns : List (Option Str)) : List (Option Str) :=
  ns.map fun o => match o with
    | some y => (match csc.names.lookup y with
      | some .free => some y
      | _ => none)
    | none => none
noncomputable def compOk (sc csc : Scope) (x : Str) : Bool :=
  (match csc.kind with
   | .function => true
   | _ => false) &&
  (match csc.names.lookup x with
   | some .local => true
   | some .cell => true
   | _ => false) &&
  csc.names.all fun p =>
    (match p.2 with
     | .local => (match csc.names.lookup p.1 with | some .local => true | _ => false)
     | .cell => (match csc.names.lookup p.1 with | some .cell => true | _ => false)
     | .free => (match csc.names.lookup p.1 with | some .free => true | _ => false) && (match sc.names.lookup p.1 with
       | some .cell => true
       | some .free => true
       | _ => false)
     | .globalImplicit => (match csc.names.lookup p.1 with | some .globalImplicit => true | _ => false)
     | _ => false)
noncomputable def dConst (e : Expr) : Option { p : Const × Nat × Pos // e = .Constant p.1 p.2.1 p.2.2 } := match e with
  | .Constant c k pos => some ⟨(c, k, pos), rfl⟩
  | _ => none
noncomputable def dName (e : Expr) : Option { p : Str × Pos // e = .Name p.1 p.2 } := match e with
  | .Name x pos => some ⟨(x, pos), rfl⟩
  | _ => none
noncomputable def dBin (e : Expr) : Option { p : Expr × Operator × Expr × Pos // e = .BinOp p.1 p.2.1 p.2.2.1 p.2.2.2 } := match e with
  | .BinOp l o r pos => some ⟨(l, o, r, pos), rfl⟩
  | _ => none
noncomputable def dUn (e : Expr) : Option { p : UnaryOp × Expr × Pos // e = .UnaryOp p.1 p.2.1 p.2.2 } := match e with
  | .UnaryOp o x pos => some ⟨(o, x, pos), rfl⟩
  | _ => none
noncomputable def dBool (e : Expr) : Option { p : BoolOp × List Expr × Pos // e = .BoolOp p.1 p.2.1 p.2.2 } := match e with
  | .BoolOp o xs pos => some ⟨(o, xs, pos), rfl⟩
  | _ => none
noncomputable def dCmp (e : Expr) : Option { p : Expr × List CmpOp × List Expr × Pos // e = .Compare p.1 p.2.1 p.2.2.1 p.2.2.2 } := match e with
  | .Compare l os rs pos => some ⟨(l, os, rs, pos), rfl⟩
  | _ => none
noncomputable def dSub (e : Expr) : Option { p : Expr × Expr × Pos // e = .Subscript p.1 p.2.1 p.2.2 } := match e with
  | .Subscript v s pos => some ⟨(v, s, pos), rfl⟩
  | _ => none
noncomputable def dSlice (e : Expr) : Option { p : Option Expr × Option Expr × Option Expr × Pos // e = .Slice p.1 p.2.1 p.2.2.1 p.2.2.2 } := match e with
  | .Slice l u t pos => some ⟨(l, u, t, pos), rfl⟩
  | _ => none
noncomputable def dTup (e : Expr) : Option { p : List Expr × Nat × Pos // e = .Tuple p.1 p.2.1 p.2.2 } := match e with
  | .Tuple xs k pos => some ⟨(xs, k, pos), rfl⟩
  | _ => none
noncomputable def dList (e : Expr) : Option { p : List Expr × Pos // e = .List p.1 p.2 } := match e with
  | .List xs pos => some ⟨(xs, pos), rfl⟩
  | _ => none
noncomputable def dDict (e : Expr) : Option { p : List (Option Expr) × List Expr × Pos // e = .Dict p.1 p.2.1 p.2.2 } := match e with
  | .Dict ks vs pos => some ⟨(ks, vs, pos), rfl⟩
  | _ => none
noncomputable def dAttr (e : Expr) : Option { p : Expr × Str × Pos // e = .Attribute p.1 p.2.1 p.2.2 } := match e with
  | .Attribute v y pos => some ⟨(v, y, pos), rfl⟩
  | _ => none
noncomputable def dCall (e : Expr) : Option { p : Expr × List Expr × List Keyword × Pos // e = .Call p.1 p.2.1 p.2.2.1 p.2.2.2 } := match e with
  | .Call f xs ks pos => some ⟨(f, xs, ks, pos), rfl⟩
  | _ => none
noncomputable def dComp (e : Expr) : Option { p : Expr × List Comprehension × Scope × Pos // e = .ListComp p.1 p.2.1 p.2.2.1 p.2.2.2 } := match e with
  | .ListComp el gs csc pos => some ⟨(el, gs, csc, pos), rfl⟩
  | _ => none
noncomputable def cNone (c : Const) : Option { _p : Unit // c = .none } := match c with
  | .none => some ⟨(), rfl⟩
  | _ => none
noncomputable def cBool (c : Const) : Option { b : Bool // c = .bool b } := match c with
  | .bool b => some ⟨b, rfl⟩
  | _ => none
noncomputable def cInt (c : Const) : Option { b : Int // c = .int b } := match c with
  | .int b => some ⟨b, rfl⟩
  | _ => none
noncomputable def cStr (c : Const) : Option { b : Str // c = .str b } := match c with
  | .str b => some ⟨b, rfl⟩
  | _ => none
noncomputable def isUSub (o : UnaryOp) : Option { _p : Unit // o = .USub } := match o with
  | .USub => some ⟨(), rfl⟩
  | _ => none
noncomputable def isNotOp (o : UnaryOp) : Option { _p : Unit // o = .Not } := match o with
  | .Not => some ⟨(), rfl⟩
  | _ => none
noncomputable def isAnd (o : BoolOp) : Option { _p : Unit // o = .And } := match o with
  | .And => some ⟨(), rfl⟩
  | _ => none
noncomputable def isOr (o : BoolOp) : Option { _p : Unit // o = .Or } := match o with
  | .Or => some ⟨(), rfl⟩
  | _ => none
noncomputable def one {α : Type} (xs : List α) : Option { x : α // xs = [x] } := match xs with
  | [x] => some ⟨x, rfl⟩
  | _ => none
noncomputable def two {α : Type} (xs : List α) : Option { p : α × α // xs = [p.1, p.2] } := match xs with
  | [x, y] => some ⟨(x, y), rfl⟩
  | _ => none
noncomputable def more (xs : List Expr) : Option { p : Expr × Expr × List Expr // xs = p.1 :: p.2.1 :: p.2.2 } := match xs with
  | x :: y :: r => some ⟨(x, y, r), rfl⟩
  | _ => none
noncomputable def nilL {α : Type} (xs : List α) : Option { _p : Unit // xs = [] } := match xs with
  | [] => some ⟨(), rfl⟩
  | _ :: _ => none
noncomputable def noneO {α : Type} (o : Option α) : Option { _p : Unit // o = none } := match o with
  | none => some ⟨(), rfl⟩
  | some _ => none
noncomputable def dCallN (e : Expr) : Option { p : Str × Pos × List Expr × Pos // e = .Call (.Name p.1 p.2.1) p.2.2.1 [] p.2.2.2 } := match dCall e with
  | some ⟨(f, xs, ks, pos), h⟩ => (match nilL ks, dName f with
    | some ⟨_, hk⟩, some ⟨(x, np), hn⟩ => some ⟨(x, np, xs, pos), h.trans (by dsimp only at hk hn ⊢; rw [hk, hn])⟩
    | _, _ => none)
  | none => none
noncomputable def dCallA (e : Expr) : Option { p : Expr × Str × Pos × List Expr × Pos // e = .Call (.Attribute p.1 p.2.1 p.2.2.1) p.2.2.2.1 [] p.2.2.2.2 ∧ (p.2.2.1.endLine == p.2.2.2.2.line) = true } := match dCall e with
  | some ⟨(f, xs, ks, pos), h⟩ => (match nilL ks, dAttr f with
    | some ⟨_, hk⟩, some ⟨(o, y, apos), hn⟩ => if hl : (apos.endLine == pos.line) = true then some ⟨(o, y, apos, xs, pos), h.trans (by dsimp only at hk hn ⊢; rw [hk, hn]), hl⟩ else none
    | _, _ => none)
  | none => none
noncomputable def gen1 (gs : List Comprehension) : Option { p : Str × Pos × Expr × List Expr // gs = [⟨.Name p.1 p.2.1, p.2.2.1, p.2.2.2, 0⟩] } := match one gs with
  | some ⟨⟨t, i, ifs, as⟩, h⟩ => (match dName t with
    | some ⟨(x, px), hn⟩ => if ha : as = 0 then some ⟨(x, px, i, ifs), h.trans (by dsimp only at hn ⊢; rw [hn, ha])⟩ else none
    | none => none)
  | none => none
noncomputable def tyOk (N : Names) (y : Str) : Ty → Bool
  | .cls c => hasNo N.clss y c
  | t => decide (tyName t = y)
noncomputable def seen {α : Type} (o : Option α) (f : α → Bool) : Bool := match o with
  | some a => f a
  | none => false
theorem seen_of {α : Type} {o : Option α} {f : α → Bool} (h : seen o f = true) : ∃ a, f a = true := by
  cases o with
  | none => cases h
  | some a => exact ⟨a, h⟩
theorem said {P : Prop} {o : Option { _p : Unit // P }} (h : o.isSome = true) : P := by
  cases o with
  | none => cases h
  | some a => exact a.2
theorem an1 {a b : Bool} (h : (a && b) = true) : a = true := by
  cases a with
  | true => rfl
  | false => cases h
theorem an2 {a b : Bool} (h : (a && b) = true) : b = true := by
  cases a with
  | true => exact h
  | false => cases h
mutual
noncomputable def ck (N : Names) (sc : Scope) (ns : List (Option Str)) (m : ME) (e : Expr) : Bool :=
  match m with
  | .none => (seen (dConst e) fun p1 => (cNone p1.1.1).isSome)
  | .bool b => (seen (dConst e) fun p1 => (seen (cBool p1.1.1) fun p2 => b == p2.1))
  | .int i => (seen (dConst e) fun p1 => (seen (cInt p1.1.1) fun p2 => decide (i = p2.1)))
  | .str s => (seen (dConst e) fun p1 => (seen (cStr p1.1.1) fun p2 => decide (s = p2.1) && decide (s.length ≤ 1000)))
  | .glob k => (seen (dName e) fun p1 => isGlob sc p1.1.1 && hasNo N.globs p1.1.1 k)
  | .var i => (seen (dName e) fun p1 => isVar sc ns i p1.1.1)
  | .bin op a b => (seen (dBin e) fun p1 => opOk op p1.1.2.1 && ck N sc ns a p1.1.1 && ck N sc ns b p1.1.2.2.1)
  | .neg a => (seen (dUn e) fun p1 => (isUSub p1.1.1).isSome && ck N sc ns a p1.1.2.1)
  | .not a => (seen (dUn e) fun p1 => (isNotOp p1.1.1).isSome && ck N sc ns a p1.1.2.1)
  | .and a b => (seen (dBool e) fun p1 => (isAnd p1.1.1).isSome && (seen (more p1.1.2.1) fun p2 => ck N sc ns a p2.1.1 && (match p2.1.2.2 with
        | [] => ck N sc ns b p2.1.2.1
        | _ :: _ => ck N sc ns b (.BoolOp .And (p2.1.2.1 :: p2.1.2.2) p1.1.2.2))))
  | .or a b => (seen (dBool e) fun p1 => (isOr p1.1.1).isSome && (seen (more p1.1.2.1) fun p2 => ck N sc ns a p2.1.1 && (match p2.1.2.2 with
        | [] => ck N sc ns b p2.1.2.1
        | _ :: _ => ck N sc ns b (.BoolOp .Or (p2.1.2.1 :: p2.1.2.2) p1.1.2.2))))
  | .cmp op a b => (seen (dCmp e) fun p1 => decide (p1.1.2.1 = [cmOp op]) && (seen (one p1.1.2.2.1) fun p2 => ck N sc ns a p1.1.1 && ck N sc ns b p2.1 && notSet p2.1))
  | .cmp2 op1 op2 a b c => (seen (dCmp e) fun p1 => decide (p1.1.2.1 = [cmOp op1, cmOp op2]) && (seen (two p1.1.2.2.1) fun p2 => ck N sc ns a p1.1.1 && ck N sc ns b p2.1.1 && ck N sc ns c p2.1.2 && notSet p2.1.2))
  | .sub a i => (seen (dSub e) fun p1 => ck N sc ns a p1.1.1 && ck N sc ns i p1.1.2.1)
  | .slice a lo hi => (seen (dSub e) fun p1 => (seen (dSlice p1.1.2.1) fun p2 => ck N sc ns a p1.1.1 && ckO N sc ns lo p2.1.1 && ckO N sc ns hi p2.1.2.1 && (noneO p2.1.2.2.1).isSome))
  | .tup es => (seen (dTup e) fun p1 => ckEs N sc ns es p1.1.1 && decide (p1.1.1.length ≤ 1000))
  | .list es => (seen (dList e) fun p1 => ckEs N sc ns es p1.1.1 && decide (p1.1.1.length ≤ 1000))
  | .dict => (seen (dDict e) fun p1 => p1.1.1.isEmpty && p1.1.2.1.isEmpty)
  | .attr a n => (seen (dAttr e) fun p1 => ck N sc ns a p1.1.1 && hasNo N.attrs p1.1.2.1 n && notSuper p1.1.1)
  | .call f es => (seen (dCallN e) fun p1 => isGlob sc p1.1.1 && hasNo N.funs p1.1.1 f && ckEs N sc ns es p1.1.2.2.1 && decide (p1.1.2.2.1.length ≤ 20))
  | .new c es => (seen (dCallN e) fun p1 => isGlob sc p1.1.1 && hasNo N.clss p1.1.1 c && ckEs N sc ns es p1.1.2.2.1 && decide (p1.1.2.2.1.length ≤ 20))
  | .umeth a m es => (seen (dCallA e) fun p1 => ck N sc ns a p1.1.1 && hasNo N.meths p1.1.2.1 m && ckEs N sc ns es p1.1.2.2.2.1 && decide (p1.1.2.2.2.1.length ≤ 20) && notSuper p1.1.1)
  | .bf f es => (seen (dCallN e) fun p1 => isGlob sc p1.1.1 && decide ((bfName f).1 = p1.1.1) && decide ((bfName f).2 = p1.1.2.2.1.length) && ckEs N sc ns es p1.1.2.2.1)
  | .bm a m es => (seen (dCallA e) fun p1 => ck N sc ns a p1.1.1 && decide ((bmName m).1 = p1.1.2.1) && decide ((bmName m).2 = p1.1.2.2.2.1.length) && ckEs N sc ns es p1.1.2.2.2.1 && notSuper p1.1.1)
  | .isinst a t => (seen (dCallN e) fun p1 => (seen (two p1.1.2.2.1) fun p2 => (seen (dName p2.1.2) fun p3 => isGlob sc p1.1.1 && decide (p1.1.1 = ("isinstance" : Str)) && isGlob sc p3.1.1 && ck N sc ns a p2.1.1 && tyOk N p3.1.1 t)))
  | .comp elt it cond => (seen (dComp e) fun p1 => (seen (gen1 p1.1.2.1) fun p2 => ck N sc ns it p2.1.2.2.1 && notSet p2.1.2.2.1 && compOk sc p1.1.2.2.1 p2.1.1 && ck N p1.1.2.2.1 (inner p1.1.2.2.1 ns ++ [some p2.1.1]) elt p1.1.1 && ckC N p1.1.2.2.1 (inner p1.1.2.2.1 ns ++ [some p2.1.1]) cond p2.1.2.2.2))
noncomputable def ckO (N : Names) (sc : Scope) (ns : List (Option Str)) : MEo → Option Expr → Bool
  | .none, none => true
  | .some e, some x => ck N sc ns e x
  | _, _ => false
noncomputable def ckC (N : Names) (sc : Scope) (ns : List (Option Str)) : MEo → List Expr → Bool
  | .none, [] => true
  | .some e, [x] => ck N sc ns e x
  | _, _ => false
noncomputable def ckEs (N : Names) (sc : Scope) (ns : List (Option Str)) : MEs → List Expr → Bool
  | .nil, [] => true
  | .cons e es, x :: xs => ck N sc ns e x && ckEs N sc ns es xs
  | _, _ => false
end
noncomputable def asExpr (st : Stmt) : Option { p : Expr × Pos // st = .Expr p.1 p.2 } := match st with
  | .Expr x pos => some ⟨(x, pos), rfl⟩
  | _ => none
noncomputable def dAsg (st : Stmt) : Option { p : Expr × Expr × Pos // st = .Assign [p.1] p.2.1 p.2.2 } := match st with
  | .Assign ts x pos => (match one ts with
    | some ⟨t, h⟩ => some ⟨(t, x, pos), by dsimp only; rw [h]⟩
    | none => none)
  | _ => none
noncomputable def asName (st : Stmt) : Option { p : Str × Pos × Expr × Pos // st = .Assign [.Name p.1 p.2.1] p.2.2.1 p.2.2.2 } := match dAsg st with
  | some ⟨(t, x, pos), h⟩ => (match dName t with
    | some ⟨(y, py), hn⟩ => some ⟨(y, py, x, pos), h.trans (by dsimp only at hn ⊢; rw [hn])⟩
    | none => none)
  | none => none
noncomputable def asAttr (st : Stmt) : Option { p : Expr × Str × Pos × Expr × Pos // st = .Assign [.Attribute p.1 p.2.1 p.2.2.1] p.2.2.2.1 p.2.2.2.2 } := match dAsg st with
  | some ⟨(t, x, pos), h⟩ => (match dAttr t with
    | some ⟨(o, y, py), hn⟩ => some ⟨(o, y, py, x, pos), h.trans (by dsimp only at hn ⊢; rw [hn])⟩
    | none => none)
  | none => none
noncomputable def asItem (st : Stmt) : Option { p : Expr × Expr × Pos × Expr × Pos // st = .Assign [.Subscript p.1 p.2.1 p.2.2.1] p.2.2.2.1 p.2.2.2.2 } := match dAsg st with
  | some ⟨(t, x, pos), h⟩ => (match dSub t with
    | some ⟨(o, y, py), hn⟩ => some ⟨(o, y, py, x, pos), h.trans (by dsimp only at hn ⊢; rw [hn])⟩
    | none => none)
  | none => none
noncomputable def asRet (st : Stmt) : Option { p : Option Expr × Pos // st = .Return p.1 p.2 } := match st with
  | .Return x pos => some ⟨(x, pos), rfl⟩
  | _ => none
noncomputable def asIf (st : Stmt) : Option { p : Expr × List Stmt × List Stmt × Pos // st = .If p.1 p.2.1 p.2.2.1 p.2.2.2 } := match st with
  | .If x ts fs pos => some ⟨(x, ts, fs, pos), rfl⟩
  | _ => none
noncomputable def dFor (st : Stmt) : Option { p : Expr × Expr × List Stmt × Pos // st = .For p.1 p.2.1 p.2.2.1 [] p.2.2.2 } := match st with
  | .For t x ts fs pos => (match nilL fs with
    | some ⟨_, h⟩ => some ⟨(t, x, ts, pos), by dsimp only; rw [h]⟩
    | none => none)
  | _ => none
noncomputable def asFor1 (st : Stmt) : Option { p : Str × Pos × Expr × List Stmt × Pos // st = .For (.Name p.1 p.2.1) p.2.2.1 p.2.2.2.1 [] p.2.2.2.2 } := match dFor st with
  | some ⟨(t, x, ts, pos), h⟩ => (match dName t with
    | some ⟨(y, py), hn⟩ => some ⟨(y, py, x, ts, pos), h.trans (by dsimp only at hn ⊢; rw [hn])⟩
    | none => none)
  | none => none
noncomputable def pairN (t : Expr) : Option { p : Str × Pos × Str × Pos × Nat × Pos // t = .Tuple [.Name p.1 p.2.1, .Name p.2.2.1 p.2.2.2.1] p.2.2.2.2.1 p.2.2.2.2.2 } := match dTup t with
  | some ⟨(xs, k, pt), h⟩ => (match two xs with
    | some ⟨(a, b), h2⟩ => (match dName a, dName b with
      | some ⟨(y, py), h3⟩, some ⟨(z, pz), h4⟩ => some ⟨(y, py, z, pz, k, pt), h.trans (by dsimp only at h2 h3 h4 ⊢; rw [h2, h3, h4])⟩
      | _, _ => none)
    | none => none)
  | none => none
noncomputable def asFor2 (st : Stmt) : Option { p : (Str × Pos × Str × Pos × Nat × Pos) × Expr × List Stmt × Pos // st = .For (.Tuple [.Name p.1.1 p.1.2.1, .Name p.1.2.2.1 p.1.2.2.2.1] p.1.2.2.2.2.1 p.1.2.2.2.2.2) p.2.1 p.2.2.1 [] p.2.2.2 } := match dFor st with
  | some ⟨(t, x, ts, pos), h⟩ => (match pairN t with
    | some ⟨q, hn⟩ => some ⟨(q, x, ts, pos), h.trans (by dsimp only; rw [hn])⟩
    | none => none)
  | none => none
noncomputable def asCall1 (e : Expr) : Option { p : Str × Pos × Expr × Pos // e = .Call (.Name p.1 p.2.1) [p.2.2.1] [] p.2.2.2 } := match dCallN e with
  | some ⟨(f, fp, xs, cp), h⟩ => (match one xs with
    | some ⟨x, h2⟩ => some ⟨(f, fp, x, cp), h.trans (by dsimp only; rw [h2])⟩
    | none => none)
  | none => none
noncomputable def asCall2 (e : Expr) : Option { p : Str × Pos × Expr × Expr × Pos // e = .Call (.Name p.1 p.2.1) [p.2.2.1, p.2.2.2.1] [] p.2.2.2.2 } := match dCallN e with
  | some ⟨(f, fp, xs, cp), h⟩ => (match two xs with
    | some ⟨(x, y), h2⟩ => some ⟨(f, fp, x, y, cp), h.trans (by dsimp only at h2 ⊢; rw [h2])⟩
    | none => none)
  | none => none
noncomputable def asRaise (st : Stmt) : Option { p : Str × Pos × Str × Nat × Pos × Pos × Pos // st = .Raise (some (.Call (.Name p.1 p.2.1) [.Constant (.str p.2.2.1) p.2.2.2.1 p.2.2.2.2.1] [] p.2.2.2.2.2.1)) none p.2.2.2.2.2.2 } := match st with
  | .Raise (some e) o pos => (match noneO o, asCall1 e with
    | some ⟨_, h1⟩, some ⟨(f, fp, x, cp), h2⟩ => (match dConst x with
      | some ⟨(c, k, mp), h3⟩ => (match cStr c with
        | some ⟨m, h4⟩ => some ⟨(f, fp, m, k, mp, cp, pos), by dsimp only at h2 h3 ⊢; rw [h1, h2, h3, h4]⟩
        | none => none)
      | none => none)
    | _, _ => none)
  | _ => none
noncomputable def asTry (st : Stmt) : Option { p : List Stmt × ExceptHandler × List ExceptHandler × Pos // st = .Try p.1 (p.2.1 :: p.2.2.1) [] [] p.2.2.2 } := match st with
  | .Try ts hs a b pos => (match hs, nilL a, nilL b with
    | h :: hx, some ⟨_, h1⟩, some ⟨_, h2⟩ => some ⟨(ts, h, hx, pos), by dsimp only; rw [h1, h2]⟩
    | _, _, _ => none)
  | _ => none
noncomputable def notComp : ME → Bool
  | .comp .. => false
  | _ => true
noncomputable def asHandler (hd : ExceptHandler) : Option { p : Str × Pos × Option Str × Stmt × List Stmt × Pos // hd = .ExceptHandler (some (.Name p.1 p.2.1)) p.2.2.1 (p.2.2.2.1 :: p.2.2.2.2.1) p.2.2.2.2.2 } := match hd with
  | .ExceptHandler (some (.Name x xp)) y (t :: ts) pos => some ⟨(x, xp, y, t, ts, pos), rfl⟩
  | _ => none
noncomputable def hdName (sc : Scope) (ns : List (Option Str)) (i : Option Nat) (y : Option Str) : Bool := match i with
  | none => y.isNone
  | some i => (match y with
    | some y => isOwn sc ns i y && decide (sc.names.lookup y = some .local)
    | none => false)
mutual
noncomputable def ckS (N : Names) (sc : Scope) (ns : List (Option Str)) (m : MS) (st : Stmt) : Bool :=
  match m with
  | .expr e => (seen (asExpr st) fun p1 => ck N sc ns e p1.1.1 && notComp e)
  | .assign i e => (seen (asName st) fun p1 => isOwn sc ns i p1.1.1 && ck N sc ns e p1.1.2.2.1)
  | .setattr o n e => (seen (asAttr st) fun p1 => ck N sc ns e p1.1.2.2.2.1 && ck N sc ns o p1.1.1 && hasNo N.attrs p1.1.2.1 n)
  | .setitem o i e => (seen (asItem st) fun p1 => ck N sc ns e p1.1.2.2.2.1 && ck N sc ns o p1.1.1 && ck N sc ns i p1.1.2.1)
  | .ret e => (seen (asRet st) fun p1 => ckO N sc ns e p1.1.1)
  | .ite c t f => (seen (asIf st) fun p1 => ck N sc ns c p1.1.1 && ckSs N sc ns t p1.1.2.1 && ckSs N sc ns f p1.1.2.2.1)
  | .each i it b => (seen (asFor1 st) fun p1 => isOwn sc ns i p1.1.1 && ck N sc ns it p1.1.2.2.1 && notSet p1.1.2.2.1 && ckSs N sc ns b p1.1.2.2.2.1)
  | .eachZip i j a b body => (seen (asFor2 st) fun p1 => isOwn sc ns i p1.1.1.1 && isOwn sc ns j p1.1.1.2.2.1 && ckSs N sc ns body p1.1.2.2.1 && (seen (asCall2 p1.1.2.1) fun p2 => isGlob sc p2.1.1 && decide (p2.1.1 = ("zip" : Str)) && ck N sc ns a p2.1.2.2.1 && ck N sc ns b p2.1.2.2.2.1))
  | .eachEnum i j a body => (seen (asFor2 st) fun p1 => isOwn sc ns i p1.1.1.1 && isOwn sc ns j p1.1.1.2.2.1 && ckSs N sc ns body p1.1.2.2.1 && (seen (asCall1 p1.1.2.1) fun p2 => isGlob sc p2.1.1 && decide (p2.1.1 = ("enumerate" : Str)) && ck N sc ns a p2.1.2.2.1))
  | .raise c msg => (seen (asRaise st) fun p1 => isGlob sc p1.1.1 && hasNo N.clss p1.1.1 c && decide (p1.1.2.2.1 = msg) && ckEs N sc ns (.cons (.str msg) .nil) [.Constant (.str p1.1.2.2.1) p1.1.2.2.2.1 p1.1.2.2.2.2.1])
  | .tryx b hs => (seen (asTry st) fun p1 => ckSs N sc ns b p1.1.1 && ckHs N sc ns hs (p1.1.2.1 :: p1.1.2.2.1))
noncomputable def ckSs (N : Names) (sc : Scope) (ns : List (Option Str)) : MSs → List Stmt → Bool
  | .nil, [] => true
  | .cons s ss, x :: xs => ckS N sc ns s x && ckSs N sc ns ss xs
  | _, _ => false
noncomputable def ckHs (N : Names) (sc : Scope) (ns : List (Option Str)) : MHs → List ExceptHandler → Bool
  | .nil, [] => true
  | .cons c i b hs, hd :: hx => (seen (asHandler hd) fun p1 => isGlob sc p1.1.1 && hasNo N.clss p1.1.1 c && ckSs N sc ns b (p1.1.2.2.2.1 :: p1.1.2.2.2.2.1) && hdName sc ns i p1.1.2.2.1) && ckHs N sc ns hs hx
  | _, _ => false
end
noncomputable def nodupS : List (Option Str) → Bool
  | [] => true
  | none :: r => nodupS r
  | some x :: r => !(r.contains (some x)) && nodupS r
noncomputable def ckF (N : Names) (f : MFun) (ns : List Str) (params : Arguments) (body : List Stmt) (sc : Scope) : Bool :=
  decide (f.arity + f.nvars = ns.length) && decide (ns.take f.arity = params.args.map (·.arg)) && params.posonlyargs.isEmpty && params.vararg.isNone && params.kwonlyargs.isEmpty && params.kwarg.isNone && params.defaults.isEmpty && params.kw_defaults.isEmpty &&
  nodupS (ns.map some) && !sc.isCoroutine && !sc.isGenerator && (match sc.kind with | .function => true | _ => false) && ckSs N sc (ns.map some) f.body body &&
  (sc.names.all fun p => (match p.2 with
    | .local => (match sc.names.lookup p.1 with | some .local => true | _ => false)
    | .cell => (match sc.names.lookup p.1 with | some .cell => true | _ => false)
    | .globalImplicit => (match sc.names.lookup p.1 with | some .globalImplicit => true | _ => false)
    | _ => false)) &&
  (ns.take f.arity).all fun y => (match sc.names.lookup y with | some .local => true | some .cell => true | _ => false)
end Mine
-- part MOps
namespace Mine
open PySem
section
variable {α β : Type} {cx : Cx} {A : Around} {P : Amb} {H : Hp} {ρ : Rho} {s : Shared} {t : Sem α} {V : β → α → Amb}
theorem simAt_pure {b : β} (R : Rel cx H ρ s) (k : ∀ (Q : α → Shared → Prop) (E : Value → Shared → Prop), (∀ a tk, (V b a).P ρ s.heap → Q a { s with toks := tk }) → wpAny (model cx.prog cx.w) A t Q E s) : SimAt cx A (.ok b H) t V ρ s :=
  k _ _ fun a tk v => ⟨ρ, Full.refl _ _, R.toks tk, v⟩
theorem Rel.newList {xs : List Val} {vs : List Value} (tk : Nat) (R : Rel cx H ρ s) (r : VRs cx ρ s.heap xs vs) (z : xs.length ≤ sizeLine) :
    ∃ ρ', Full ρ s.heap ρ' (s.heap.push (listO vs 0)) ∧ Rel cx (H ++ [.list xs]) ρ' { s with heap := s.heap.push (listO vs 0), toks := tk } ∧ VR cx ρ' (s.heap.push (listO vs 0)) (.loc H.length) (.ref s.heap.objs.size) := by
  have kp : ∀ b o, s.heap.get? b = some o → (s.heap.push (listO vs 0)).get? b = some o := fun b o e => Heap.get?_push_of_some _ e
  obtain ⟨F, R'⟩ := R.alloc (tk := tk) (o := .list xs) (p := (s.heap.objs.size, s.heap.objs.size)) kp ⟨fresh_none _, fresh_none _⟩
    (.list (n := 0) (Heap.get?_push_size _ rfl) (r.step (Full.alloc kp ⟨fresh_none _, fresh_none _⟩).step) z)
  refine ⟨_, F, R', ?_⟩
  rw [R.len]
  exact VR.loc (p := (s.heap.objs.size, s.heap.objs.size)) (by rw [List.getElem?_append_right (Nat.le_refl _)]; simp)
end
theorem sizeLine_lid : lid = sizeLine := by skip; rfl
section
variable {cx : Cx} {A : Around} {P : Amb} {a b : Val} {v w : Value}
theorem small_ok {x : Int} (h : small x = true) : Builtin.Int.intBits x ≤ 64 := by
  unfold small at h
  simp only [Bool.and_eq_true, decide_eq_true_eq] at h
  exact intBits_le_64 h.1 h.2
theorem Rel.listAt {H : Hp} {ρ : Rho} {s : Shared} (R : Rel cx H ρ s) {l : Nat} {xs : List Val} {p : Addr × Addr} (hH : H[l]? = some (.list xs)) (hρ : ρ[l]? = some p) :
    ∃ vs n, p.2 = p.1 ∧ s.heap.get? p.1 = some (listO vs n) ∧ VRs cx ρ s.heap xs vs ∧ xs.length ≤ sizeLine := by
  have := R.objs l _ p hH hρ
  generalize ho : HObj.list xs = o at this
  cases this with
  | list e r z => cases ho; exact ⟨_, _, rfl, e, r, z⟩
  | dict _ _ _ => cases ho
  | inst _ _ _ _ _ _ _ _ _ _ => cases ho
  | hid _ => cases ho
theorem VR.int_inv {ρ : Rho} {h : Heap} {i : Int} (x : VR cx ρ h (.int i) v) : ∃ t, v = .int i t := by cases x; exact ⟨_, rfl⟩
theorem VR.str_inv {ρ : Rho} {h : Heap} {i : Str} (x : VR cx ρ h (.str i) v) : ∃ t, v = .str i t ∧ i.length ≤ sizeLine := by cases x; exact ⟨_, rfl, by assumption⟩
theorem VR.none_inv {ρ : Rho} {h : Heap} (x : VR cx ρ h .none v) : v = .none := by cases x; rfl
theorem VR.loc_inv {ρ : Rho} {h : Heap} {l : Nat} (x : VR cx ρ h (.loc l) v) : ∃ p, ρ[l]? = some p ∧ v = .ref p.1 := by cases x; exact ⟨_, by assumption, rfl⟩
theorem VRs.nil_inv {ρ : Rho} {h : Heap} {vs : List Value} (x : VRs cx ρ h [] vs) : vs = [] := by cases x; rfl
theorem VRs.cons_inv {ρ : Rho} {h : Heap} {m : Val} {ms : List Val} {vs : List Value} (x : VRs cx ρ h (m :: ms) vs) : ∃ v vs', vs = v :: vs' ∧ VR cx ρ h m v ∧ VRs cx ρ h ms vs' := by cases x; exact ⟨_, _, rfl, by assumption, by assumption⟩
theorem VRs.one_inv {ρ : Rho} {h : Heap} {m : Val} {vs : List Value} (x : VRs cx ρ h [m] vs) : ∃ v, vs = [v] ∧ VR cx ρ h m v := by
  refine ex2 x.cons_inv fun v vs' zz => aNd3 zz fun zr2 y z => ?_; subst zr2
  exact ⟨v, by rw [z.nil_inv], y⟩
theorem VRs.two_inv {ρ : Rho} {h : Heap} {m n : Val} {vs : List Value} (x : VRs cx ρ h [m, n] vs) : ∃ v w, vs = [v, w] ∧ VR cx ρ h m v ∧ VR cx ρ h n w := by
  refine ex2 x.cons_inv fun v vs' zz => aNd3 zz fun zr2 y z => ?_; subst zr2
  refine ex1 z.one_inv fun w zz => aNd2 zz fun hr1 u => ?_; refine Eq.symm hr1 ▸ ?_
  exact ⟨v, w, rfl, y, u⟩
theorem sim_bin {op : BOp} {o : Operator} (ho : opOk op o = true) (h1 : ∀ ρ h, P.P ρ h → VR cx ρ h a v) (h2 : ∀ ρ h, P.P ρ h → VR cx ρ h b w) : Sim cx A P (binaryOp o v w) (binV op a b) (Amb.vr cx) := by
  intro H ρ s R p
  have x1 := h1 _ _ p
  have x2 := h2 _ _ p
  clear h1 h2 p
  have ho' : bOp op = o := of_decide_eq_true ho
  subst ho'
  clear ho
  cases op with
  | add =>
    cases a with
    | int i =>
      cases b with
      | int j =>
        obtain ⟨_, rfl⟩ := x1.int_inv
        obtain ⟨_, rfl⟩ := x2.int_inv
        exact simAt_pure R fun Q E k => PyProof.Rows.add_int (k _ _ (.int _ _))
      | _ => trivial
    | str x =>
      cases b with
      | str y =>
        refine ex1 x1.str_inv fun _ zz => aNd2 zz fun zr1 _ => ?_; subst zr1
        refine ex1 x2.str_inv fun _ zz => aNd2 zz fun hr3 _ => ?_; refine Eq.symm hr3 ▸ ?_
        show SimAt cx A ((if x.length + y.length ≤ lid then M.ret (Val.str (x ++ y)) else M.bad) H) _ _ ρ s
        by_cases q : x.length + y.length ≤ lid
        · rw [if_pos q]
          rw [sizeLine_lid] at q
          exact simAt_pure R fun Q E k => PyProof.Rows.add_str (fun t' tk => k _ _ (.str _ _ (by rw [strLen_append]; exact q))) q
        · rw [if_neg q]; trivial
      | _ => trivial
    | _ => trivial
  | sub =>
    cases a with
    | int i =>
      cases b with
      | int j =>
        obtain ⟨_, rfl⟩ := x1.int_inv
        obtain ⟨_, rfl⟩ := x2.int_inv
        exact simAt_pure R fun Q E k => PyProof.Rows.sub_int (k _ _ (.int _ _))
      | _ => trivial
    | _ => trivial
  | mul =>
    cases a with
    | int i =>
      cases b with
      | int j =>
        obtain ⟨_, rfl⟩ := x1.int_inv
        obtain ⟨_, rfl⟩ := x2.int_inv
        show SimAt cx A ((if (small i || small j) = true then M.ret (Val.int (i * j)) else M.bad) H) _ _ ρ s
        by_cases q : (small i || small j) = true
        · rw [if_pos q]
          refine simAt_pure R fun Q E k => PyProof.Rows.mul_int (k _ _ (.int _ _)) ?_
          rcases (Bool.or_eq_true _ _).mp q with q | q
          · exact IntMulOk.of_left (small_ok q)
          · exact IntMulOk.of_right (small_ok q)
        · rw [if_neg q]; trivial
      | _ => trivial
    | _ => trivial
  | fdiv =>
    cases a with
    | int i =>
      cases b with
      | int j =>
        obtain ⟨_, rfl⟩ := x1.int_inv
        obtain ⟨_, rfl⟩ := x2.int_inv
        show SimAt cx A ((if j = 0 ∨ 1073741824 ≤ j.natAbs then M.bad else M.ret (Val.int (Int.fdiv i j))) H) _ _ ρ s
        by_cases q : j = 0 ∨ 1073741824 ≤ j.natAbs
        · rw [if_pos q]; trivial
        · rw [if_neg q]
          exact simAt_pure R fun Q E k => PyProof.Rows.floordiv_int (fun e => q (.inl e)) (k _ _ (.int _ _)) (.inl (PyProof.noPylong_small (by exact o6 q)))
      | _ => trivial
    | _ => trivial
  | mod =>
    cases a with
    | int i =>
      cases b with
      | int j =>
        obtain ⟨_, rfl⟩ := x1.int_inv
        obtain ⟨_, rfl⟩ := x2.int_inv
        show SimAt cx A ((if j = 0 then M.bad else M.ret (Val.int (Int.fmod i j))) H) _ _ ρ s
        by_cases q : j = 0
        · rw [if_pos q]; trivial
        · rw [if_neg q]
          exact simAt_pure R fun Q E k => PyProof.Rows.mod_int' q (k _ _ (.int _ _))
      | _ => trivial
    | _ => trivial
end
end Mine
-- part MExpr
namespace Mine
open PySem
structure FnOk (cx : Cx) (N : Names) (a : Addr) (f : MFun) : Prop where
  is : ∃ o fd body ns, cx.h₀.get? a = some o ∧ o.cls = .type "function" ∧ o.data = .func fd ∧ cx.h₀.CodeRec fd.code fd.qualname ∧ fd.body = .stmts body ∧ fd.closure = [] ∧ fd.globals = mainGlobals ∧ fd.builtins = builtinsNs ∧
    fd.defaults = .none ∧ fd.kwdefaults = .none ∧ ckF N f ns fd.params body fd.scope = true
structure ClsOk (cx : Cx) (N : Names) (c : Nat) (C : Addr) : Prop where
  is : ∃ nm q Nn bs sn sub col dd k0 k1 k2 k3 k5 mN, cx.h₀.get? C = some (excClassObj nm q C Nn bs [.type "object"] true sn sub false col dd k0 k1 k2 k3 k5 "object.__new__") ∧ cx.h₀.Ns Nn mN ∧
    mN "__getattribute__" = none ∧ mN "__getattr__" = none ∧ mN "__setattr__" = none ∧
    (∀ (n : Nat) (y : Str), cx.attrs[n]? = some y → mN y = none ∧ typeLookup (.type "object") y = pure none) ∧
    (∀ (y : Str) (m k : Nat), N.meths.lookup y = some m → cx.T.meth c m = some k → ∃ fa o fd, cx.fns[k]? = some fa ∧ mN y = some (.ref fa) ∧ cx.h₀.get? fa = some o ∧ o.cls = .type "function" ∧ o.data = .func fd ∧ (∀ n : Nat, cx.attrs[n]? ≠ some y) ∧ ∃ r, typeLookup (.type "object") y = pure r)
structure ClsBase (cx : Cx) (N : Names) : Prop where
  attr : ∀ (y : Str) (n : Nat), N.attrs.lookup y = some n → cx.attrs[n]? = some y
  inj : ∀ (i j : Nat) (y : Str), cx.attrs[i]? = some y → cx.attrs[j]? = some y → i = j
  few : cx.attrs.length ≤ sizeLine
  init : N.meths.lookup ("__init__" : Str) = some 0
  ref : ∀ (c : Nat) (v : Value), cx.cls[c]? = some v → (cx.T.meth c 0).isSome = true → ∃ C, v = .ref C
  cls : ∀ (c : Nat) (C : Addr), cx.cls[c]? = some (.ref C) → (cx.T.meth c 0).isSome = true → ClsOk cx N c C
noncomputable def mroV : List Value := [.type "ValueError", .type "Exception", .type "BaseException", .type "object"]
structure ExcOk (cx : Cx) (c : Nat) (C : Addr) : Prop where
  is : ∃ nm q Nn bs bm hdct sn sub ab col dd k0 k1 k2 k3 k5 mN, cx.h₀.get? C = some (excClassObj nm q C Nn bs bm hdct sn sub ab col dd k0 k1 k2 k3 k5 "ValueError.__new__") ∧ cx.h₀.Ns Nn mN ∧ mN "__init__" = none ∧ OwnTail cx.h₀ mroV bm ∧
    ∀ (d : Nat) (D : Value), cx.cls[d]? = some D → cx.T.sub c d = (Value.ref C :: bm).contains D
  isi : ∃ K : PySem.W.Frag, K.In cx.h₀ ∧ ExcK K C ∧ ∀ (d : Nat) (D : Value), cx.cls[d]? = some D → clsVal K D = true ∧ PySem.W.mroIn K C D = some (cx.T.sub c d)
structure Base (cx : Cx) (N : Names) : Prop where
  ns : ∃ mg mb, cx.h₀.Ns mainGlobals mg ∧ cx.h₀.Ns builtinsNs mb ∧
    (∀ x k, N.funs.lookup x = some k → ∃ a, cx.fns[k]? = some a ∧ mg x = some (.ref a)) ∧
    (∀ x k, N.globs.lookup x = some k → ∃ v val, cx.T.globs[k]? = some v ∧ mg x = some val ∧ ∀ ρ h, VR cx ρ h v val) ∧
    (∀ x c, N.clss.lookup x = some c → ∃ C, cx.cls[c]? = some C ∧ (mg x = some C ∨ (mg x = none ∧ mb x = some C))) ∧
    (∀ p ∈ bltTab, mg p.1 = none ∧ mb p.1 = some p.2)
  lim : cx.h₀.NoLimit
  fns : ∀ (k : Nat) (a : Addr) (f : MFun), cx.fns[k]? = some a → cx.T.funs[k]? = some f → FnOk cx N a f
  cls : ClsBase cx N
  exc : ∀ c : Nat, cx.T.isExc c = true → ∃ C, cx.cls[c]? = some (.ref C) ∧ ExcOk cx c C
set_option tactic.hygienic true in
theorem hasNo_eq {l : List (Str × Nat)} {x : Str} {k : Nat} (h : hasNo l x k = true) : l.lookup x = some k := by
  unfold hasNo at h
  split at h
  · rename_i j e
    rw [e, of_decide_eq_true h]
  · cases h
theorem isGlob_eq {sc : Scope} {x : Str} (h : isGlob sc x = true) : sc.names.lookup x = some .globalImplicit ∧ (x == ("__debug__" : Str)) = false := by
  unfold isGlob at h
  rw [Bool.and_eq_true] at h
  refine ⟨?_, by simpa using h.2⟩
  have := h.1
  split at this
  · assumption
  · cases this
set_option tactic.hygienic true in
theorem isVar_eq {sc : Scope} {ns : List (Option Str)} {i : Nat} {x : Str} (h : isVar sc ns i x = true) :
    (sc.names.lookup x = some .local ∨ sc.names.lookup x = some .cell ∨ sc.names.lookup x = some .free) ∧ ns[i]? = some (some x) ∧ (x == ("__debug__" : Str)) = false ∧ (x == ("__classdict__" : Str)) = false := by
  unfold isVar at h
  simp only [Bool.and_eq_true, Bool.not_eq_true'] at h
  refine hideG fun G kG => ?_
  obtain ⟨⟨⟨h1, h2⟩, h3⟩, h4⟩ := h
  refine kG ?_
  refine ⟨?_, ?_, h3, h4⟩
  · split at h1 <;> simp_all
  · split at h2
    · rename_i y e; rw [e, of_decide_eq_true h2]
    · cases h2
section
variable {cx : Cx} {N : Names} {A : Around} {env : Env} {sc : Scope} {ns : List (Option Str)} {Γ : Env'}
theorem sim_var {i : Nat} {x : Str} {pos : Pos} (hv : isVar sc ns i x = true) (Φ : Funs) : Sim cx A (Amb.env cx env sc ns Γ) (eval (.Name x pos) env) (evalE cx.T Φ (.var i) Γ) (Amb.vr cx) := by
  refine hideG fun G kG => ?_
  refine aNd4 (isVar_eq hv) fun _ hn hd hc => ?_
  refine kG ?_
  intro H ρ s R p
  rw [ev_var]
  cases e : Γ[i]? with
  | none => trivial
  | some o =>
    cases o with
    | none => trivial
    | some mv =>
      refine ex1 (p.vals i x mv hn e) fun v zz => aNd2 zz fun q r => ?_
      refine simAt_pure R fun Q E k => ?_
      have k' := k v s.toks r
      rcases q with ⟨kd, m, hm, hv⟩ | ⟨kd, c, hc', hv⟩
      · exact wpAny_Name (wpAny_loadName_local p.st.fn kd hm hv k') hd
      · rcases kd with kd | kd
        · exact wpAny_Name (wpAny_loadName_cell p.st.fn kd hc' hv k') hd
        · exact wpAny_Name (wpAny_loadName_free p.st.fn kd hc' hv k' hc) hd
theorem wp_glob {ρ : Rho} {s : Shared} {H : Hp} {x : Str} {pos : Pos} {mg mb : Str → Option Value} {v : Value} {Q : Value → Shared → Prop} {E : Value → Shared → Prop} (R : Rel cx H ρ s) (p : EnvSt cx env sc ρ s.heap) (hg : isGlob sc x = true)
    (ng : cx.h₀.Ns mainGlobals mg) (nb : cx.h₀.Ns builtinsNs mb) (hv : mg x = some v ∨ (mg x = none ∧ mb x = some v)) (h : Q v s) : wpAny (model cx.prog cx.w) A (eval (.Name x pos) env) Q E s := by
  obtain ⟨h1, h2⟩ := isGlob_eq hg
  have kd : env.kindOf x = some .globalImplicit := p.kinds x _ h1
  have ng' : s.heap.Ns env.globals mg := by rw [p.glob]; exact ng.keeps R.base
  have nb' : s.heap.Ns env.builtins mb := by rw [p.blt]; exact nb.keeps R.base
  refine Calls.Name_function_global p.fn kd ?_ h2
  rcases hv with hv | ⟨h0, hv⟩
  · exact Calls.loadGlobal_global ng' hv h
  · exact Calls.loadGlobal_builtin ng' h0 nb' hv h
theorem sim_glob (B : Base cx N) {k : Nat} {x : Str} {pos : Pos} (hg : isGlob sc x = true) (hk : hasNo N.globs x k = true) (Φ : Funs) : Sim cx A (Amb.env cx env sc ns Γ) (eval (.Name x pos) env) (evalE cx.T Φ (.glob k) Γ) (Amb.vr cx) := by
  refine hideG fun G kG => ?_
  refine ex2 B.ns fun mg mb zz => aNd5 zz fun ng nb _ q _ => ?_
  refine ex2 (q x k (hasNo_eq hk)) fun v val zz => aNd3 zz fun e1 e2 r => ?_
  refine kG ?_
  intro H ρ s R p
  rw [ev_glob, e1]
  exact simAt_pure R fun Q E k => wp_glob R p.st hg ng nb (.inl e2) (k _ s.toks (r _ _))
theorem sim_truthy {a : Val} {v : Value} {P : Amb} (h : ∀ ρ h, P.P ρ h → VR cx ρ h a v) : Sim cx A P (truthy v) (truth a) (fun b b' => Amb.prop (b' = b)) := by
  intro H ρ s R p
  have x := h _ _ p
  cases x with
  | bool b => exact simAt_pure R fun Q E k => wpAny_truthy_bool (k _ s.toks rfl)
  | _ => trivial
theorem sim_neg {a : Val} {v : Value} {P : Amb} (h : ∀ ρ h, P.P ρ h → VR cx ρ h a v) : Sim cx A P (unaryOp .USub v) (match a with | .int i => M.ret (Val.int (-i)) | _ => .bad) (Amb.vr cx) := by
  intro H ρ s R p
  have x := h _ _ p
  cases x with
  | int i t => exact simAt_pure R fun Q E k => PyProof.Rows.neg_int (k _ _ (.int _ _))
  | _ => trivial
theorem sim_not {a : Val} {v : Value} {P : Amb} (h : ∀ ρ h, P.P ρ h → VR cx ρ h a v) : Sim cx A P (unaryOp .Not v) ((truth a).bnd fun b => M.ret (Val.bool (!b))) (Amb.vr cx) := by
  intro H ρ s R p
  have x := h _ _ p
  cases x with
  | bool b => exact simAt_pure R fun Q E k => not_value (wpAny_truthy_bool (k _ s.toks (.bool _)))
  | _ => trivial
end
end Mine
-- part MCmp
namespace Mine
open PySem
section
variable {cx : Cx} {H : Hp} {ρ : Rho} {s : Shared}
set_option tactic.hygienic true in
theorem reads_dats {n : Nat} {f : Val → Option PyData} (ih : ∀ {m : Val} {v : Value} {d : PyData}, VR cx ρ s.heap m v → f m = some d → (∃ as, Reads s.heap v d as) ∧ d.canLay0 = true ∧ d.depth ≤ n) :
    ∀ {xs : List Val} {vs : List Value} {ds : List PyData}, VRs cx ρ s.heap xs vs → dats f xs = some ds → (∃ as, ReadsAll s.heap vs ds as) ∧ PyData.canLayAll0 ds = true ∧ PyData.depthAll ds ≤ n := by
  intro xs
  induction xs with
  | nil =>
    intro vs ds r h
    cases r
    simp [dats] at h; subst h
    exact ⟨⟨_, .nil⟩, by simp [PyData.canLayAll0], by simp [PyData.depthAll]⟩
  | cons x xs hi =>
    intro vs ds r h
    cases r with
    | cons a r =>
      simp only [dats] at h
      split at h
      · rename_i d ds' e1 e2
        cases h
        refine hideG fun G kG => ?_
        refine aNd3 (ih a e1) fun zn0 h2 h3 => ?_; obtain ⟨as, h1⟩ := zn0
        refine aNd3 (hi r e2) fun zn0 g2 g3 => ?_; obtain ⟨bs, g1⟩ := zn0
        refine kG ?_
        exact ⟨⟨_, .cons h1 g1⟩, by simp [PyData.canLayAll0, h2, g2], by simp only [PyData.depthAll]; exact o7 h3 g3⟩
      · exact nomatch h
theorem ite_some {α : Type} {p : Prop} [Decidable p] {x y : α} (h : (if p then some x else none) = some y) : p ∧ x = y := by
  by_cases q : p
  · rw [if_pos q] at h; exact ⟨q, Option.some.inj h⟩
  · rw [if_neg q] at h; exact nomatch h
set_option tactic.hygienic true in
theorem reads_data (R : Rel cx H ρ s) : ∀ (n : Nat) {m : Val} {v : Value} {d : PyData}, VR cx ρ s.heap m v → dataOf H n m = some d → (∃ as, Reads s.heap v d as) ∧ d.canLay0 = true ∧ d.depth ≤ n := by
  intro n
  induction n with
  | zero =>
    intro m v d x h
    cases x with
    | none => cases h; exact ⟨⟨_, .none⟩, rfl, Nat.zero_le _⟩
    | bool b => cases h; exact ⟨⟨_, .bool b⟩, rfl, Nat.zero_le _⟩
    | int i t => cases h; exact ⟨⟨_, .int i t⟩, rfl, Nat.zero_le _⟩
    | str y t z =>
      obtain ⟨h1, h2⟩ := ite_some h
      cases h2; exact ⟨⟨_, .str y t⟩, h1, Nat.zero_le _⟩
    | _ => cases h
  | succ n ih =>
    intro m v d x h
    cases x with
    | none => cases h; exact ⟨⟨_, .none⟩, rfl, Nat.zero_le _⟩
    | bool b => cases h; exact ⟨⟨_, .bool b⟩, rfl, Nat.zero_le _⟩
    | int i t => cases h; exact ⟨⟨_, .int i t⟩, rfl, Nat.zero_le _⟩
    | str y t z =>
      obtain ⟨h1, h2⟩ := ite_some h
      cases h2; exact ⟨⟨_, .str y t⟩, h1, Nat.zero_le _⟩
    | @tup a vs k ms e no z r =>
      refine hideG fun G kG => ?_
      refine ex1 (Option.map_eq_some_iff.mp h) fun ds zz => aNd2 zz fun h1 zr2 => ?_; subst zr2
      refine aNd3 (reads_dats (n := n) (fun x h => ih x h) r h1) fun zn0 g2 g3 => ?_; obtain ⟨as, g1⟩ := zn0
      refine kG ?_
      exact ⟨⟨_, .tuple e rfl rfl (by simpa using g1)⟩, g2, Nat.succ_le_succ g3⟩
    | @loc l p e =>
      have h : (match H[l]? with | some (.list vs) => (dats (dataOf H n) vs).map .list | _ => none) = some d := h
      split at h
      · rename_i xs hl
        refine hideG fun G kG => ?_
        refine ex1 (Option.map_eq_some_iff.mp h) fun ds zz => aNd2 zz fun h1 zr2 => ?_; subst zr2
        refine ex2 (R.listAt hl e) fun vs k zz => aNd4 zz fun _ g r _ => ?_
        refine aNd3 (reads_dats (n := n) (fun x h => ih x h) r h1) fun zn0 g2 g3 => ?_; obtain ⟨as, g1⟩ := zn0
        refine kG ?_
        exact ⟨⟨_, .list g rfl rfl (by simpa using g1)⟩, g2, Nat.succ_le_succ g3⟩
      · cases h
    | _ => cases h
end
section
variable {cx : Cx} {A : Around} {P : Amb} {a b : Val} {v w : Value} {H : Hp} {ρ : Rho} {s : Shared}
theorem shaped_of {d : PyData} {n : Nat} (h : d.canLay0 = true) (k : d.depth ≤ n) (z : n ≤ 64 := by decide) : SeqAt.shaped d = true := by
  unfold SeqAt.shaped; rw [h]; exact decide_eq_true (Nat.le_trans k z)
set_option tactic.hygienic true in
theorem wp_eq (R : Rel cx H ρ s) (x : VR cx ρ s.heap a v) (y : VR cx ρ s.heap b w) {r : Bool} (e : pyEq H a b = some r) (hu : A.units + 100 < cLine) {Q : Value → Shared → Prop} {E : Value → Shared → Prop} (k : Q (.bool r) s) :
    wpAny (model cx.prog cx.w) A (compareOp .Eq v w) Q E s := by
  unfold pyEq at e
  split at e
  · rename_i d1 d2 e1 e2
    cases e
    refine hideG fun G kG => ?_
    refine aNd3 (reads_data R deep x e1) fun zn0 g2 g3 => ?_; obtain ⟨as, g1⟩ := zn0
    refine aNd3 (reads_data R deep y e2) fun zn0 f2 f3 => ?_; obtain ⟨bs, f1⟩ := zn0
    refine kG ?_
    exact SeqAt.compareEq_shaped g1 f1 (shaped_of g2 g3) (shaped_of f2 f3) (by exact o8 hu) k
  · cases e
set_option tactic.hygienic true in
theorem wp_ne (R : Rel cx H ρ s) (x : VR cx ρ s.heap a v) (y : VR cx ρ s.heap b w) {r : Bool} (e : pyEq H a b = some r) (hu : A.units + 100 < cLine) {Q : Value → Shared → Prop} {E : Value → Shared → Prop} (k : Q (.bool (!r)) s) :
    wpAny (model cx.prog cx.w) A (compareOp .NotEq v w) Q E s := by
  unfold pyEq at e
  split at e
  · rename_i d1 d2 e1 e2
    cases e
    refine aNd3 (reads_data R deep x e1) fun zn0 g2 g3 => ?_; obtain ⟨as, g1⟩ := zn0
    refine aNd3 (reads_data R deep y e2) fun zn0 f2 f3 => ?_; obtain ⟨bs, f1⟩ := zn0
    exact SeqAt.compareNe_shaped g1 f1 (shaped_of g2 g3) (shaped_of f2 f3) (by exact o8 hu) k
  · cases e
theorem flip_some {o : Option Bool} {r : Bool} (h : flip true o = some r) : ∃ r', o = some r' ∧ r = !r' := by
  cases o with
  | none => simp [flip] at h
  | some b => refine ⟨b, rfl, ?_⟩; simp [flip] at h; rw [h]; simp
theorem isV_none_val {r : Bool} (x : VR cx ρ s.heap a v) (h : isV a .none = some r) : r = (v == .none) := by
  cases x <;> simp_all [isV]
theorem Rel.dictAt (R : Rel cx H ρ s) {l : Nat} {es : List (Key × Val)} {p : Addr × Addr} (hH : H[l]? = some (.dict es)) (hρ : ρ[l]? = some p) :
    ∃ xs, p.2 = p.1 ∧ s.heap.DictOfH (cellKind cx) p.1 xs ∧ DRs cx ρ s.heap es xs ∧ es.length ≤ sizeLine := by
  have := R.objs l _ p hH hρ
  generalize ho : HObj.dict es = o at this
  cases this with
  | list e r z => exact nomatch ho
  | dict d r z => cases ho; exact ⟨_, rfl, d, r, z⟩
  | inst _ _ _ _ _ _ _ _ _ _ => exact nomatch ho
  | hid _ => cases ho
theorem keyOf_eq {k : Key} (h : keyOf a = some k) : a = .tup [.int k.1, .int k.2] := by
  unfold keyOf at h
  split at h
  · cases h; rfl
  · cases h
theorem key_is {k : Key} (x : VR cx ρ s.heap a v) (h : keyOf a = some k) : ∃ b, v = .ref b ∧ (cellKind cx).is s.heap [k.1, k.2] b ∧ ¬ Owned ρ b := by
  rw [keyOf_eq h] at x
  cases x with
  | @tup b vs n ms e no z r =>
    refine ⟨b, rfl, ⟨_, vs.toArray, n, e, rfl, rfl, ?_⟩, no⟩
    cases r with
    | cons r1 r =>
      cases r with
      | cons r2 r =>
        cases r
        cases r1
        cases r2
        exact .cons (by simp [intKind, Value.isInt]) (.cons (by simp [intKind, Value.isInt]) .nil)
theorem DRs.atKey {es : List (Key × Val)} {xs : List (List Int × Addr × Value)} (r : DRs cx ρ s.heap es xs) (k : Key) :
    match dget es k, atKey xs [k.1, k.2] with
    | some m, some p => VR cx ρ s.heap m p.2
    | none, none => True
    | _, _ => False := by
  induction r with
  | nil => simp [dget, PySem.atKey]
  | @cons k' v' b x es xs a n _ ih =>
    by_cases q : k' = k
    · refine q ▸ ?_
      simp [dget, PySem.atKey, a]
    · have q' : ¬ ([k'.1, k'.2] = [k.1, k.2]) := fun e => q (by
        simp only [List.cons.injEq, and_true] at e
        exact Prod.ext e.1 e.2)
      have q2 : (k == k') = false := by simpa using fun e : k = k' => q e.symm
      have e1 : dget ((k', v') :: es) k = dget es k := by simp [dget, List.lookup_cons, q2]
      have e2 : PySem.atKey (([k'.1, k'.2], b, x) :: xs) [k.1, k.2] = PySem.atKey xs [k.1, k.2] := by
        unfold PySem.atKey
        rw [List.find?_cons]
        simp only [decide_eq_false q']
      rw [e1, e2]
      exact ih
theorem DRs.isSome {es : List (Key × Val)} {xs : List (List Int × Addr × Value)} (r : DRs cx ρ s.heap es xs) (k : Key) : (PySem.atKey xs [k.1, k.2]).isSome = (dget es k).isSome := by
  have := r.atKey k
  cases h1 : dget es k <;> cases h2 : PySem.atKey xs [k.1, k.2] <;> simp_all
theorem not_sysModules (R : Rel cx H ρ s) {l : Nat} {p : Addr × Addr} (hρ : ρ[l]? = some p) : (p.1 == sysModules) = false := by
  obtain ⟨o, e⟩ := R.sys
  have := (R.new p (List.mem_of_getElem? hρ)).1
  simpa using fun w : p.1 = sysModules => by rw [w, e] at this; exact nomatch this
set_option tactic.hygienic true in
theorem wp_in (R : Rel cx H ρ s) (x : VR cx ρ s.heap a v) (y : VR cx ρ s.heap b w) {r : Bool} (e : inV a b H = some r) (hu : A.units + 100 < cLine) {Q : Value → Shared → Prop} {E : Value → Shared → Prop} (k : ∀ tk, Q (.bool r) { s with toks := tk }) :
    wpAny (model cx.prog cx.w) A (compareOp .In v w) Q E s := by
  cases y with
  | @loc l p hp =>
    simp only [inV] at e
    split at e
    · rename_i ys hl
      refine ex2 (R.listAt hl hp) fun vs n zz => aNd4 zz fun _ g rr _ => ?_
      unfold inList at e
      split at e
      · rename_i d ds e1 e2
        cases e
        refine hideG fun G kG => ?_
        refine aNd3 (reads_data R deep x e1) fun zn0 g2 g3 => ?_; obtain ⟨as, g1⟩ := zn0
        refine aNd3 (reads_dats (n := deep) (fun x h => reads_data R deep x h) rr e2) fun zn0 f2 f3 => ?_; obtain ⟨bs, f1⟩ := zn0
        refine kG ?_
        refine SeqAt.in_list_reads (.list g rfl rfl (by simpa using f1)) g1 f2 g2 ?_ (k s.toks)
        have := Nat.min_le_right (PyData.depthAll ds) d.depth
        have : deep = 6 := rfl
        omega
      · cases e
    · rename_i es hl
      split at e
      · rename_i kk ek
        cases e
        refine ex1 (R.dictAt hl hp) fun xs zz => aNd4 zz fun _ D rr _ => ?_
        refine ex1 (key_is x ek) fun bb zz => aNd3 zz fun hr0 hk _ => ?_; refine Eq.symm hr0 ▸ ?_
        refine wpAny_in_heap (knd := cellKind cx) (tupleKind_room_in1 (by exact o9 hu)) hk (not_sysModules R hp) D ?_
        rw [rr.isSome]; exact k _
      · cases e
    · cases e
  | _ => cases e
set_option tactic.hygienic true in
theorem wp_notin (R : Rel cx H ρ s) (x : VR cx ρ s.heap a v) (y : VR cx ρ s.heap b w) {r : Bool} (e : inV a b H = some r) (hu : A.units + 100 < cLine) {Q : Value → Shared → Prop} {E : Value → Shared → Prop} (k : ∀ tk, Q (.bool (!r)) { s with toks := tk }) :
    wpAny (model cx.prog cx.w) A (compareOp .NotIn v w) Q E s := by
  cases y with
  | @loc l p hp =>
    simp only [inV] at e
    split at e
    · rename_i ys hl
      refine ex2 (R.listAt hl hp) fun vs n zz => aNd4 zz fun _ g rr _ => ?_
      unfold inList at e
      split at e
      · rename_i d ds e1 e2
        cases e
        refine aNd3 (reads_data R deep x e1) fun zn0 g2 g3 => ?_; obtain ⟨as, g1⟩ := zn0
        refine aNd3 (reads_dats (n := deep) (fun x h => reads_data R deep x h) rr e2) fun zn0 f2 f3 => ?_; obtain ⟨bs, f1⟩ := zn0
        refine SeqAt.notIn_list_reads (.list g rfl rfl (by simpa using f1)) g1 f2 g2 ?_ (k s.toks)
        have := Nat.min_le_right (PyData.depthAll ds) d.depth
        have : deep = 6 := rfl
        omega
      · cases e
    · rename_i es hl
      split at e
      · rename_i kk ek
        cases e
        refine ex1 (R.dictAt hl hp) fun xs zz => aNd4 zz fun _ D rr _ => ?_
        refine ex1 (key_is x ek) fun bb zz => aNd3 zz fun zr1 hk _ => ?_; subst zr1
        refine PyProof.Rows.wpAny_notIn_heap (knd := cellKind cx) (tupleKind_room_in1 (by exact o9 hu)) hk (not_sysModules R hp) D ?_
        rw [rr.isSome]; exact k _
      · cases e
    · cases e
  | _ => cases e
set_option tactic.hygienic true in
theorem dats_mono {f g : Val → Option PyData} (h : ∀ m d, f m = some d → g m = some d) : ∀ {xs : List Val} {ds : List PyData}, dats f xs = some ds → dats g xs = some ds
  | [], ds, e => by simpa [dats] using e
  | x :: xs, ds, e => by
    simp only [dats] at e ⊢
    split at e
    · rename_i d ds' e1 e2
      cases e
      rw [h _ _ e1, dats_mono h e2]
    · cases e
theorem data_nil : ∀ (n : Nat) (m : Val) (d : PyData), dataOf [] n m = some d → dataOf H n m = some d
  | 0, m, d, e => by cases m <;> exact e
  | n + 1, m, d, e => by
    cases m with
    | tup vs =>
      refine ex1 (Option.map_eq_some_iff.mp e) fun ds zz => aNd2 zz fun e1 e2 => ?_
      exact Option.map_eq_some_iff.mpr ⟨ds, dats_mono (data_nil n) e1, e2⟩
    | loc l => cases e
    | _ => exact e
set_option tactic.hygienic true in
theorem eq_nil {r : Bool} (h : pyEq [] a b = some r) : pyEq H a b = some r := by
  unfold pyEq at h ⊢
  split at h
  · rename_i d1 d2 e1 e2
    rw [data_nil _ _ _ e1, data_nil _ _ _ e2]; exact h
  · cases h
theorem VR.tup_inv {h : Heap} {ms : List Val} (x : VR cx ρ h (.tup ms) v) : ∃ p vs n, v = .ref p ∧ h.get? p = some (tupO vs n) ∧ VRs cx ρ h ms vs := by cases x; exact ⟨_, _, _, rfl, by assumption, by assumption⟩
set_option tactic.hygienic true in
theorem wp_eqBool (R : Rel cx H ρ s) (x : VR cx ρ s.heap a v) (y : VR cx ρ s.heap b w) {r : Bool} (e : pyEq H a b = some r) (hu : A.units + 10 < cLine) {Q : Bool → Shared → Prop} {E : Value → Shared → Prop} (k : Q r s) :
    wpAny (model cx.prog cx.w) A (eqBool v w) Q E s := by
  unfold pyEq at e
  split at e
  · rename_i d1 d2 e1 e2
    cases e
    refine aNd3 (reads_data R deep x e1) fun zn0 g2 g3 => ?_; obtain ⟨as, g1⟩ := zn0
    refine aNd3 (reads_data R deep y e2) fun zn0 f2 f3 => ?_; obtain ⟨bs, f1⟩ := zn0
    refine SeqAt.eqBoolOverData _ _ _ _ _ _ _ _ _ _ _ _ g1 f1 g2 f2 ?_ k
    have := Nat.min_le_left d1.depth d2.depth
    have : deep = 6 := rfl
    omega
  · cases e
theorem lts_cons {e f : Val → Val → Option Bool} {x y : Val} {xs ys : List Val} {r : Bool} (h : lts e f (x :: xs) (y :: ys) = some r) : (e x y = some true ∧ lts e f xs ys = some r) ∨ (e x y = some false ∧ f x y = some r) := by
  unfold lts at h
  split at h
  · exact .inl ⟨by assumption, h⟩
  · exact .inr ⟨by assumption, h⟩
  · exact nomatch h
theorem int2 {p : Int → Int → Bool} {r : Bool} (e : (match a, b with | .int x, .int y => some (p x y) | _, _ => none) = some r) : ∃ x y, a = .int x ∧ b = .int y ∧ r = p x y := by
  split at e
  · cases e; exact ⟨_, _, rfl, rfl, rfl⟩
  · cases e
theorem ints2 {p : Int → Int → Bool} {r : Bool} {C : Value → Value → Bool → Prop} {h : Heap} (e : (match a, b with | .int x, .int y => some (p x y) | _, _ => none) = some r) (x1 : VR cx ρ h a v) (x2 : VR cx ρ h b w) (k : ∀ x y t u, C (.int x t) (.int y u) (p x y)) : C v w r := by
  refine ex2 (int2 e) fun x y zz => aNd3 zz fun zr2 zr3 zr4 => ?_; subst zr2; subst zr3; subst zr4
  obtain ⟨t, rfl⟩ := x1.int_inv
  obtain ⟨u, rfl⟩ := x2.int_inv
  exact k _ _ _ _
theorem wp_ltI {r : Bool} {Q : Value → Shared → Prop} {E : Value → Shared → Prop} (x1 : VR cx ρ s.heap a v) (x2 : VR cx ρ s.heap b w) (e : intLt a b = some r) (k : Q (.bool r) s) : wpAny (model cx.prog cx.w) A (richCompare .Lt v w) Q E s := ints2 (C := fun v w r => Q (.bool r) s → wpAny (model cx.prog cx.w) A (richCompare .Lt v w) Q E s) e x1 x2 (fun _ _ _ _ => PyProof.Rows.lt_int) k
theorem is_el {r : Bool} {C : Value → Prop} (e : isV a b = some r) (x1 : VR cx ρ s.heap a v) (x2 : VR cx ρ s.heap b w) (k0 : r = (v == .none) → C .none) : C w := by
  cases b with
  | none => cases x2; exact k0 (isV_none_val x1 e)
  | _ => cases e
theorem sim_cmp (hu : A.units + 100 < cLine) {op : COp} (h1 : ∀ ρ h, P.P ρ h → VR cx ρ h a v) (h2 : ∀ ρ h, P.P ρ h → VR cx ρ h b w) :
    Sim cx A P (compareOp (cmOp op) v w) ((M.look (cmpV op a b)).bnd fun r => M.ret (Val.bool r)) (Amb.vr cx) := by
  intro H ρ s R p
  have x1 := h1 _ _ p
  have x2 := h2 _ _ p
  cases e : cmpV op a b H with
  | none => rw [bnd_bad (show M.look (cmpV op a b) H = .bad by unfold M.look; rw [e])]; trivial
  | some r =>
    rw [bnd_ok (show M.look (cmpV op a b) H = .ok r H by unfold M.look; rw [e])]
    refine simAt_pure R fun Q E k => ?_
    have k' : ∀ tk, Q (.bool r) { s with toks := tk } := fun tk => k _ tk (.bool r)
    cases op with
    | eq => exact wp_eq R x1 x2 e hu (k' s.toks)
    | ne =>
      refine ex1 (flip_some e) fun r' zz => aNd2 zz fun e' zr2 => ?_; subst zr2
      exact wp_ne R x1 x2 e' hu (k' s.toks)
    | lt => exact wp_ltI x1 x2 e (k' s.toks)
    | le => exact ints2 (C := fun v w r => Q (.bool r) s → wpAny (model cx.prog cx.w) A (compareOp .LtE v w) Q E s) e x1 x2 (fun _ _ _ _ => PyProof.Rows.le_int) (k' s.toks)
    | gt => exact ints2 (C := fun v w r => Q (.bool r) s → wpAny (model cx.prog cx.w) A (compareOp .Gt v w) Q E s) e x1 x2 (fun _ _ _ _ => PyProof.Rows.gt_int) (k' s.toks)
    | is => exact is_el (C := fun w => wpAny (model cx.prog cx.w) A (compareOp .Is v w) Q E s) e x1 x2 (fun h => is_none (h ▸ k' s.toks))
    | isNot =>
      refine ex1 (flip_some (show flip true (isV a b) = some r from e)) fun r' zz => aNd2 zz fun e' er => ?_
      exact is_el (C := fun w => wpAny (model cx.prog cx.w) A (compareOp .IsNot v w) Q E s) e' x1 x2 (fun h => isNot_none (h ▸ er ▸ k' s.toks))
    | isin => exact wp_in R x1 x2 e hu k'
    | notin =>
      refine ex1 (flip_some (show flip true (inV a b H) = some r from e)) fun r' zz => aNd2 zz fun e' zr2 => ?_; subst zr2
      exact wp_notin R x1 x2 e' hu k'
end
end Mine
-- part MSub
namespace Mine
open PySem PyProof.Rows
theorem subscripted_any (slice : Expr) (o i : Value) : ∃ ops, subscripted slice false o i = operate ops (getItem o i) := by
  unfold subscripted
  split
  · exact ⟨_, rfl⟩
  · exact absurd (by assumption) Bool.false_ne_true
  · exact ⟨_, rfl⟩
section
variable {cx : Cx} {A : Around} {P : Amb} {a b : Val} {v w : Value} {H : Hp} {ρ : Rho} {s : Shared}
set_option tactic.hygienic true in
theorem wp_listItem {l : Addr} {vs : List Value} {n : Nat} {k : Int} {u : Tok} {p : Nat} {x : Value} {Q : Value → Shared → Prop} {E : Value → Shared → Prop} (g : s.heap.get? l = some (listO vs n)) (z : vs.length ≤ sizeLine) (hp : placeOf k vs.length = some p) (hx : vs[p]? = some x) (h : Q x s) :
    wpAny (model cx.prog cx.w) A (getItem (.ref l) (.int k u)) Q E s := by
  have L : s.heap.IsList l vs.toArray := ⟨_, g, rfl, n, rfl⟩
  rw [sizeLine_eq] at z
  unfold placeOf at hp
  split at hp
  · split at hp
    · cases hp
      rename_i h0 h1
      exact wpAny_getItem_list L h0 (by omega) (by simpa using hx) h
    · cases hp
  · split at hp
    · cases hp
      rename_i h0 h1
      exact wpAny_getItem_list_neg L (by exact o10 h0) (by simpa using h1) (by omega) (by simpa using hx) h
    · cases hp
theorem sub_list {value slice : Expr} {l : Addr} {vs : List Value} {xs : List Val} {n : Nat} {i : Int} {u : Tok} {r : Val} {Q E : Value → Shared → Prop} (g : s.heap.get? l = some (listO vs n)) (rr : VRs cx ρ s.heap xs vs) (z : xs.length ≤ sizeLine)
    (e : ((placeOf i xs.length).bind fun p => xs[p]?) = some r) (k : ∀ x tk, VR cx ρ s.heap r x → Q x { s with toks := tk }) : wpAny (model cx.prog cx.w) A (subscriptTail value slice (.ref l) (.int i u)) Q E s := by
  refine hideG fun G kG => ?_
  obtain ⟨ops, hops⟩ := subscripted_any slice (.ref l) (.int i u)
  refine ex1 (Option.bind_eq_some_iff.mp e) fun pl zz => aNd2 zz fun e1 e2 => ?_
  refine ex1 (rr.get e2) fun x zz => aNd2 zz fun ex vx => ?_
  refine kG ?_
  rw [rr.length] at z e1
  exact tail_any (T := "list") (Heap.IsList.typeIs (s := s) ⟨_, g, rfl, n, rfl⟩) PySem.slot_list_getitem.lookup (wp_listItem g z e1 ex (k _ s.toks vx)) hops
theorem sub_tup {value slice : Expr} {t : Addr} {vs : List Value} {ms : List Val} {n : Nat} {i : Int} {u : Tok} {r : Val} {Q E : Value → Shared → Prop} (g : s.heap.get? t = some (tupO vs n)) (rr : VRs cx ρ s.heap ms vs) (z : ms.length ≤ sizeLine)
    (h0 : 0 ≤ i) (e : ms[i.toNat]? = some r) (k : ∀ x tk, VR cx ρ s.heap r x → Q x { s with toks := tk }) : wpAny (model cx.prog cx.w) A (subscriptTail value slice (.ref t) (.int i u)) Q E s := by
  refine hideG fun G kG => ?_
  obtain ⟨ops, hops⟩ := subscripted_any slice (.ref t) (.int i u)
  refine ex1 (rr.get e) fun x zz => aNd2 zz fun ex vx => ?_
  refine kG ?_
  have lt := (List.getElem?_eq_some_iff.mp ex).1
  rw [rr.length, sizeLine_eq] at z
  refine tail_any (T := "tuple") (Heap.IsTuple.typeIs (s := s) ⟨_, g, rfl, n, rfl⟩) slot_tuple_getitem.lookup ?_ hops
  exact getItem_tuple (items := vs.toArray) ⟨_, g, rfl, n, rfl⟩ (by omega) (by omega) (seqIndex_of h0 (by simp only [List.size_toArray]; exact o11 h0 lt)) (by simpa using ex) (k _ s.toks vx)
theorem VR.tup_inv' {ms : List Val} {h : Heap} (x : VR cx ρ h (.tup ms) v) : ∃ p vs n, v = .ref p ∧ h.get? p = some (tupO vs n) ∧ VRs cx ρ h ms vs ∧ ms.length ≤ sizeLine := by cases x; exact ⟨_, _, _, rfl, by assumption, by assumption, by assumption⟩
theorem VR.script_inv {ns : List Int} {h : Heap} (x : VR cx ρ h (.script ns) v) : ∃ p vs n, v = .ref p ∧ cx.h₀.get? p = some (listO vs n) ∧ VRs cx ρ h (ns.map .int) vs ∧ ns.length ≤ sizeLine := by cases x; exact ⟨_, _, _, rfl, by assumption, by assumption, by assumption⟩
theorem script_bind {ns : List Int} {i : Int} {r : Val} (e : ((placeOf i ns.length).bind fun p => (ns[p]?).map Val.int) = some r) : ((placeOf i (ns.map Val.int).length).bind fun p => (ns.map Val.int)[p]?) = some r := by
  rw [List.length_map, ← e]
  congr 1
  funext p
  rw [List.getElem?_map]
set_option tactic.hygienic true in
theorem sim_subTail {value slice : Expr} (hu : A.units + 100 < cLine) (h1 : ∀ ρ h, P.P ρ h → VR cx ρ h a v) (h2 : ∀ ρ h, P.P ρ h → VR cx ρ h b w) : Sim cx A P (subscriptTail value slice v w) (subV a b) (Amb.vr cx) := by
  refine Sim.look fun H ρ s r R p e Q E k => ?_
  have x1 := h1 _ _ p
  have x2 := h2 _ _ p
  clear h1 h2 p
  cases a with
  | loc l =>
    refine ex1 x1.loc_inv fun q zz => aNd2 zz fun hq hr0 => ?_; refine Eq.symm hr0 ▸ ?_
    cases hl : H[l]? with
    | none => simp only [hl] at e; exact nomatch e
    | some o =>
      simp only [hl] at e
      cases o with
      | list xs =>
        cases b with
        | int i =>
          obtain ⟨u, hr1⟩ := x2.int_inv; refine Eq.symm hr1 ▸ ?_
          refine ex2 (R.listAt hl hq) fun vs n zz => aNd4 zz fun _ g rr z => ?_
          exact sub_list g rr z e k
        | _ => cases e
      | _ => cases e
  | tup ms =>
    cases b with
    | int i =>
      obtain ⟨u, rfl⟩ := x2.int_inv
      refine ex3 x1.tup_inv' fun t vs n zz => aNd4 zz fun zr3 g rr z => ?_; subst zr3
      have e : (if 0 ≤ i then ms[i.toNat]? else none) = some r := e
      split at e
      · rename_i h0; exact sub_tup g rr z h0 e k
      · exact nomatch e
    | _ => cases e
  | script ns =>
    cases b with
    | int i =>
      obtain ⟨u, rfl⟩ := x2.int_inv
      refine ex3 x1.script_inv fun t vs n zz => aNd4 zz fun zr3 g rr z => ?_; subst zr3
      exact sub_list (R.base _ _ g) rr (by rw [List.length_map]; exact z) (script_bind e) k
    | _ => cases e
  | _ => cases e
end
end Mine
-- part MBf
namespace Mine
open PySem
section
variable {cx : Cx} {A : Around} {P : Amb} {a b : Val} {v w : Value} {H : Hp} {ρ : Rho} {s : Shared}
noncomputable def KdIs (s : Shared) (v : Value) : Kd → Prop
  | .none => v = .none
  | .bool => ∃ b, v = .bool b
  | .int => ∃ i t, v = .int i t
  | .str => ∃ y t, v = .str y t
  | .tuple => ∃ p o, v = .ref p ∧ s.heap.get? p = some o ∧ o.cls = .type "tuple"
  | .list => ∃ p o, v = .ref p ∧ s.heap.get? p = some o ∧ o.cls = .type "list"
  | .dict => ∃ p o, v = .ref p ∧ s.heap.get? p = some o ∧ o.cls = .type "dict"
set_option tactic.hygienic true in
theorem kd_is (R : Rel cx H ρ s) (x : VR cx ρ s.heap a v) {k : Kd} (e : kdOf H a = some k) : KdIs s v k := by
  cases x with
  | none => cases e; rfl
  | bool b => cases e; exact ⟨_, rfl⟩
  | int i t => cases e; exact ⟨_, _, rfl⟩
  | str y t z => cases e; exact ⟨_, _, rfl⟩
  | tup g _ _ _ => cases e; exact ⟨_, _, rfl, g, rfl⟩
  | script g _ _ => cases e; exact ⟨_, _, rfl, R.base _ _ g, rfl⟩
  | @loc l p hp =>
    have e : (match H[l]? with | some (.list _) => some Kd.list | some (.dict _) => some Kd.dict | _ => none) = some k := e
    split at e
    · rename_i xs hl
      cases e
      refine hideG fun G kG => ?_
      refine ex2 (R.listAt hl hp) fun vs n zz => aNd3 zz fun _ g _ => ?_
      refine kG ?_
      exact ⟨_, _, rfl, g, rfl⟩
    · rename_i es hl
      cases e
      refine hideG fun G kG => ?_
      refine ex1 (R.dictAt hl hp) fun xs zz => aNd3 zz fun _ D _ => ?_
      refine ex3 D fun o _ _ zz => aNd3 zz fun g ex _ => ?_
      refine kG ?_
      exact ⟨_, _, rfl, g, ex.1⟩
    · cases e
  | rng => cases e
  | exc => cases e
noncomputable def tyVal : Ty → Value
  | .int => .type "int"
  | .bool => .type "bool"
  | .str => .type "str"
  | .tuple => .type "tuple"
  | .list => .type "list"
  | .cls _ => .none
theorem wp_isi (R : Rel cx H ρ s) (x : VR cx ρ s.heap a v) {k : Kd} (e : kdOf H a = some k) {t : Ty} (ht : ∀ c, t ≠ .cls c) {Q : Value → Shared → Prop} {E : Value → Shared → Prop} (q : ∀ tk, Q (.bool (isKd t k)) { s with toks := tk }) :
    wpAny (model cx.prog cx.w) A (call (.builtin "isinstance") [v, tyVal t]) Q E s := by
  have d := kd_is R x e
  cases k <;> cases t
  case none.cls | bool.cls | int.cls | str.cls | tuple.cls | list.cls | dict.cls => exact absurd rfl (ht _)
  all_goals dsimp only [KdIs] at d
  case none.int => subst d; exact IsiPair.NoneType_int (q _)
  case none.bool => subst d; exact IsiPair.NoneType_bool (q _)
  case none.str => subst d; exact IsiPair.NoneType_str (q _)
  case none.tuple => subst d; exact IsiPair.NoneType_tuple (q _)
  case none.list => subst d; exact IsiPair.NoneType_list (q _)
  case bool.int => obtain ⟨b, rfl⟩ := d; exact IsiPair.bool_int (q _)
  case bool.bool => obtain ⟨b, rfl⟩ := d; exact IsiPair.bool_bool (q _)
  case bool.str => obtain ⟨b, rfl⟩ := d; exact IsiPair.bool_str (q _)
  case bool.tuple => obtain ⟨b, rfl⟩ := d; exact IsiPair.bool_tuple (q _)
  case bool.list => obtain ⟨b, rfl⟩ := d; exact IsiPair.bool_list (q _)
  case int.int => refine ex2 d fun i u zr2 => ?_; subst zr2; exact IsiPair.int_int (q _)
  case int.bool => refine ex2 d fun i u zr2 => ?_; subst zr2; exact IsiPair.int_bool (q _)
  case int.str => refine ex2 d fun i u zr2 => ?_; subst zr2; exact IsiPair.int_str (q _)
  case int.tuple => refine ex2 d fun i u zr2 => ?_; subst zr2; exact IsiPair.int_tuple (q _)
  case int.list => refine ex2 d fun i u zr2 => ?_; subst zr2; exact IsiPair.int_list (q _)
  case str.int => refine ex2 d fun i u zr2 => ?_; subst zr2; exact IsiPair.str_int (q _)
  case str.bool => refine ex2 d fun i u zr2 => ?_; subst zr2; exact IsiPair.str_bool (q _)
  case str.str => refine ex2 d fun i u zr2 => ?_; subst zr2; exact IsiPair.str_str (q _)
  case str.tuple => refine ex2 d fun i u zr2 => ?_; subst zr2; exact IsiPair.str_tuple (q _)
  case str.list => refine ex2 d fun i u zr2 => ?_; subst zr2; exact IsiPair.str_list (q _)
  case tuple.int => refine ex2 d fun p o zz => aNd3 zz fun zr2 g c => ?_; subst zr2; exact IsiPair.tuple_int g c (q _)
  case tuple.bool => refine ex2 d fun p o zz => aNd3 zz fun zr2 g c => ?_; subst zr2; exact IsiPair.tuple_bool g c (q _)
  case tuple.str => refine ex2 d fun p o zz => aNd3 zz fun zr2 g c => ?_; subst zr2; exact IsiPair.tuple_str g c (q _)
  case tuple.tuple => refine ex2 d fun p o zz => aNd3 zz fun zr2 g c => ?_; subst zr2; exact IsiPair.tuple_tuple g c (q _)
  case tuple.list => refine ex2 d fun p o zz => aNd3 zz fun zr2 g c => ?_; subst zr2; exact IsiPair.tuple_list g c (q _)
  case list.int => refine ex2 d fun p o zz => aNd3 zz fun zr2 g c => ?_; subst zr2; exact IsiPair.list_int g c (q _)
  case list.bool => refine ex2 d fun p o zz => aNd3 zz fun zr2 g c => ?_; subst zr2; exact IsiPair.list_bool g c (q _)
  case list.str => refine ex2 d fun p o zz => aNd3 zz fun zr2 g c => ?_; subst zr2; exact IsiPair.list_str g c (q _)
  case list.tuple => refine ex2 d fun p o zz => aNd3 zz fun zr2 g c => ?_; subst zr2; exact IsiPair.list_tuple g c (q _)
  case list.list => refine ex2 d fun p o zz => aNd3 zz fun zr2 g c => ?_; subst zr2; exact IsiPair.list_list g c (q _)
  case dict.int => refine ex2 d fun p o zz => aNd3 zz fun zr2 g c => ?_; subst zr2; exact IsiPair.dict_int g c (q _)
  case dict.bool => refine ex2 d fun p o zz => aNd3 zz fun zr2 g c => ?_; subst zr2; exact IsiPair.dict_bool g c (q _)
  case dict.str => refine ex2 d fun p o zz => aNd3 zz fun zr2 g c => ?_; subst zr2; exact IsiPair.dict_str g c (q _)
  case dict.tuple => refine ex2 d fun p o zz => aNd3 zz fun zr2 g c => ?_; subst zr2; exact IsiPair.dict_tuple g c (q _)
  case dict.list => refine ex2 d fun p o zz => aNd3 zz fun zr2 g c => ?_; subst zr2; exact IsiPair.dict_list g c (q _)
noncomputable def bfVal : BF → Value
  | .len => .builtin "len"
  | .range => .type "range"
  | .list => .type "list"
  | .sorted => .builtin "sorted"
  | .sortedSet => .none
set_option tactic.hygienic true in
theorem items_at (R : Rel cx H ρ s) (x : VR cx ρ s.heap a v) {xs : List Val} (e : itemsOf a H = some xs) :
    (∃ p vs n, v = .ref p ∧ s.heap.get? p = some (listO vs n) ∧ VRs cx ρ s.heap xs vs ∧ xs.length ≤ sizeLine) ∨ (∃ p vs n, v = .ref p ∧ s.heap.get? p = some (tupO vs n) ∧ VRs cx ρ s.heap xs vs ∧ xs.length ≤ sizeLine) := by
  cases x with
  | @tup p vs n ms g no z r => cases e; exact .inr ⟨_, _, _, rfl, g, r, z⟩
  | @script p vs n ns g z r => cases e; exact .inl ⟨_, _, _, rfl, R.base _ _ g, r, by rw [List.length_map]; exact z⟩
  | @loc l p hp =>
    simp only [itemsOf] at e
    split at e
    · rename_i ys hl
      cases e
      refine hideG fun G kG => ?_
      refine ex2 (R.listAt hl hp) fun vs n zz => aNd4 zz fun _ g r z => ?_
      refine kG ?_
      exact .inl ⟨_, _, _, rfl, g, r, z⟩
    · cases e
  | _ => cases e
theorem sim_len (h1 : ∀ ρ h, P.P ρ h → VR cx ρ h a v) : Sim cx A P (call (.builtin "len") [v]) (bfV .len [a]) (Amb.vr cx) := by
  refine Sim.look fun H ρ s r R p e Q E k => ?_
  have x := h1 _ _ p
  have gen : ∀ xs, itemsOf a H = some xs → r = .int xs.length → wpAny (model cx.prog cx.w) A (call (.builtin "len") [v]) Q E s := by
    intro xs e' hr
    subst hr
    rcases items_at R x e' with ⟨p, vs, n, rfl, g, rr, z⟩ | ⟨p, vs, n, rfl, g, rr, z⟩
    · rw [sizeLine_eq] at z
      rw [rr.length] at z k
      refine PyProof.Rows.len_list (items := vs.toArray) ⟨_, g, rfl, n, rfl⟩ (by simp only [List.size_toArray]; omega) ?_
      simp only [List.size_toArray]
      exact k _ _ (.int _ _)
    · rw [sizeLine_eq] at z
      rw [rr.length] at z k
      refine PyProof.Rows.len_tuple (items := vs.toArray) ⟨_, g, rfl, n, rfl⟩ (by simp only [List.size_toArray]; omega) ?_
      simp only [List.size_toArray]
      exact k _ _ (.int _ _)
  cases x with
  | _ =>
    simp only [Option.map_eq_some_iff] at e
    refine ex1 e fun xs zz => aNd2 zz fun e1 zr2 => ?_; subst zr2
    exact gen xs e1 rfl
theorem sim_range (h1 : ∀ ρ h, P.P ρ h → VR cx ρ h a v) : Sim cx A P (call (.type "range") [v]) (bfV .range [a]) (Amb.vr cx) := by
  intro H ρ s R p
  have x := h1 _ _ p
  cases x with
  | int i t =>
    show SimAt cx A ((if -1073741824 ≤ i ∧ i ≤ 1073741824 then M.ret (Val.rng i) else M.bad) H) _ _ ρ s
    by_cases q : -1073741824 ≤ i ∧ i ≤ 1073741824
    · rw [if_pos q]
      have F := Full.push ρ s.heap { cls := .type "range", data := .fields #[.int 0 s.toks, .int i t, .int 1 (s.toks + 1)] }
      exact call_range_1 ⟨ρ, F, R.push _ _, .rng (IsRange.new _ _ _ _ _ _ _) (R.fresh_not (fresh_none _)) (by omega) (by omega)⟩
    · rw [if_neg q]; trivial
  | _ => trivial
theorem simAt_listK {t : Sem Value} {xs : List Val} (R : Rel cx H ρ s) (z : xs.length ≤ sizeLine)
    (k : ∀ (Q : Value → Shared → Prop) (E : Value → Shared → Prop), (∀ h' tk vs n, (∀ b o, s.heap.get? b = some o → h'.get? b = some o) → h'.get? s.heap.objs.size = some (listO vs n) → (∀ ρ', Step ρ s.heap ρ' h' → VRs cx ρ' h' xs vs) → Q (.ref s.heap.objs.size) { s with heap := h', toks := tk }) → wpAny (model cx.prog cx.w) A t Q E s) :
    SimAt cx A (.ok (.loc H.length) (H ++ [.list xs])) t (Amb.vr cx) ρ s := by
  refine k _ _ fun h' tk vs n kp e r => ?_
  obtain ⟨F, R'⟩ := R.alloc (tk := tk) (o := .list xs) (p := (s.heap.objs.size, s.heap.objs.size)) kp ⟨fresh_none _, fresh_none _⟩
    (.list (n := n) e (r _ (Full.alloc kp ⟨fresh_none _, fresh_none _⟩).step) z)
  refine ⟨_, F, R', ?_⟩
  rw [R.len]
  exact VR.loc (p := (s.heap.objs.size, s.heap.objs.size)) (by rw [List.getElem?_append_right (Nat.le_refl _)]; simp)
set_option tactic.hygienic true in
theorem sim_listOf (hh : A.handled = none) (h1 : ∀ ρ h, P.P ρ h → VR cx ρ h a v) : Sim cx A P (call (.type "list") [v]) (bfV .list [a]) (Amb.vr cx) := by
  intro H ρ s R p
  have x := h1 _ _ p
  cases x with
  | @loc l q hq =>
    show SimAt cx A (match itemsOf (.loc l) H with
      | some xs => M.alloc (.list xs) H
      | none => .bad) _ _ ρ s
    split
    · rename_i xs e
      simp only [itemsOf] at e
      split at e
      · rename_i ys hl
        cases e
        refine hideG fun G kG => ?_
        refine ex2 (R.listAt hl hq) fun vs n zz => aNd4 zz fun _ g r z => ?_
        refine kG ?_
        refine simAt_listK R z fun Q E k => ?_
        refine call_list_seq q.1 (T := "list") (items := vs.toArray) (.inl rfl) g rfl rfl (fun h' c kp e => ?_) (by simp only [List.size_toArray]; rw [← r.length]; exact z)
        exact k h' s.toks vs c kp e fun ρ' st => r.step st
      · cases e
    · trivial
  | _ => trivial
end
end Mine
-- part MBm
namespace Mine
open PySem
set_option tactic.hygienic true in
theorem attributeBase_of {o : Expr} (h : notSuper o = true) (n : Str) (env : Env) (t : Sem Value) : attributeBase o n env t = t := by
  unfold attributeBase
  split
  · rename_i id _ pos
    have : (id != ("super" : Str)) = true := h
    rw [if_pos (by simp only [this, Bool.true_or])]
  · rfl
section
variable {cx : Cx} {A : Around} {P : Amb} {env : Env} {H : Hp} {ρ : Rho} {s : Shared}
noncomputable def plainArgs (env : Env) : List Expr → Prop
  | [] => True
  | e :: es => starEach (e :: es) env = (false, eval e env) :: starEach es env ∧ plainArgs env es
theorem plainArgs_trees {env : Env} : ∀ {xs : List Expr} (pos : Pos), plainArgs env xs → backTo pos (starEach xs env) = xs.map fun e => (false, eval e env)
  | [], pos, _ => rfl
  | e :: es, pos, h => by
    rw [h.1]
    have := plainArgs_trees pos h.2
    unfold backTo at this ⊢
    rw [List.map_cons, this]
    simp
theorem plainArgs_few {env : Env} {xs : List Expr} {pos : Pos} (h : plainArgs env xs) (z : xs.length ≤ 20) :
    ((backTo pos (starEach xs env)).all (fun x => !x.1) && (backToKw pos (keywordEach [] env)).all (fun x => x.1.isSome) && decide (xs.length + ([] : List Keyword).length + (if ([] : List Keyword).isEmpty then 0 else 1) < 30)) = true := by
  rw [plainArgs_trees pos h]
  simp only [Bool.and_eq_true, List.all_eq_true, List.mem_map, forall_exists_index, and_imp, decide_eq_true_eq]
  refine ⟨⟨fun x e _ hx => by rw [← hx]; rfl, ?_⟩, ?_⟩
  · intro x hx; exact absurd (show x ∈ [] from hx) List.not_mem_nil
  · simp; exact o12 z
theorem simK_method {T id : String} {o : Expr} {name : Str} {apos pos : Pos} {args : List Expr} {m : M Val} {g : Val → M Val} (hs : notSuper o = true) (hp : plainArgs env args) (hz : args.length ≤ 20) (hline : (apos.endLine == pos.line) = true)
    (pa : PlainAttrs T) (slot : Slot T name id) (hty : typeOf (.builtin id) = pure (.type "method_descriptor"))
    (x : SimAt cx A (m H) (eval o env) (Amb.vr cx) ρ s)
    (y : ∀ b a H' ρ' s', m H = .ok b H' → Full ρ s.heap ρ' s'.heap → Rel cx H' ρ' s' → VR cx ρ' s'.heap b a →
      SimK cx (g b H') (fun Q E s₁ => s₁.TypeIs a T ∧ (∀ p, a = .ref p → ∃ ob, s₁.heap.get? p = some ob ∧ ob.dict = none) ∧ wpAny (model cx.prog cx.w) A (callWith pos (.builtin id) [a] (args.map fun e => (false, eval e env)) []) Q E s₁) (Amb.vr cx) ρ' s') :
    SimAt cx A (m.bnd g H) (eval (.Call (.Attribute o name apos) args [] pos) env) (Amb.vr cx) ρ s :=
  SimAt.bindK (K' := fun Q E s => wpAny (model cx.prog cx.w) A (eval (.Call (.Attribute o name apos) args [] pos) env) Q E s) x y
    (fun a Q E Q' E' s ⟨h1, h2, h3⟩ k1 k2 => ⟨h1, h2, wpAny_mono h3 k1 k2⟩)
    (fun Q E h => wpAny_Call_method (attributeBase_of hs _ _ _) (plainArgs_few hp hz) hline pa slot hty (by rw [plainArgs_trees pos hp]; exact h))
theorem SimK.andK {β α : Type} {r : Res β} {p : Prop} (hp : p) {K : (α → Shared → Prop) → (Value → Shared → Prop) → Shared → Prop} {V : β → α → Amb} (x : SimK cx r K V ρ s) : SimK cx r (fun Q E s' => p ∧ K Q E s') V ρ s := x.mono fun _ _ h => ⟨hp, h⟩
theorem list_head (R : Rel cx H ρ s) {l : Nat} {p : Addr × Addr} {xs : List Val} (hl : H[l]? = some (.list xs)) (hp : ρ[l]? = some p) : s.TypeIs (.ref p.1) "list" ∧ ∀ q, Value.ref p.1 = .ref q → ∃ ob, s.heap.get? q = some ob ∧ ob.dict = none := by
  refine hideG fun G kG => ?_
  refine ex2 (R.listAt hl hp) fun vs n zz => aNd3 zz fun _ g _ => ?_
  refine kG ?_
  exact ⟨⟨_, g, rfl⟩, fun q e => by cases e; exact ⟨_, g, rfl⟩⟩
theorem mapSeq_list (vs : List Value) (n : Nat) (f : Array Value → Array Value) : ∃ n', Obj.mapSeq f (listO vs n) = listO (f vs.toArray).toList n' := by
  unfold listO Obj.mapSeq
  exact ⟨_, rfl⟩
theorem simAt_seq {l : Nat} {p : Addr × Addr} {b : Val} {v : Value} {ys : List Val} {vs : List Value} {n : Nat} (R : Rel cx H ρ s) (hl : ρ[l]? = some p) (hpp : p.2 = p.1) (g : s.heap.get? p.1 = some (listO vs n)) (f : Array Value → Array Value)
    (r : VRs cx ρ s.heap ys (f vs.toArray).toList) (z : ys.length ≤ sizeLine) (hv : ∀ h, Full ρ s.heap ρ h → VR cx ρ h b v) :
    ∃ ρ', Full ρ s.heap ρ' (s.heap.update p.1 (Obj.mapSeq f)) ∧ Rel cx (H.set l (.list ys)) ρ' { s with heap := s.heap.update p.1 (Obj.mapSeq f) } ∧ (Amb.vr cx b v).P ρ' (s.heap.update p.1 (Obj.mapSeq f)) := by
  obtain ⟨n', e⟩ := mapSeq_list vs n f
  have g' : (s.heap.update p.1 (Obj.mapSeq f)).get? p.1 = some (listO (f vs.toArray).toList n') := by
    rw [Heap.get?_update_self _ g (by skip; rfl), e]
  have hs : Heap.SameBut p.1 s.heap (s.heap.update p.1 (Obj.mapSeq f)) := Heap.SameBut.update ..
  have own : Owned ρ p.1 := ⟨p, List.mem_of_getElem? hl, .inl rfl⟩
  have F := Full.own own g' hs
  obtain ⟨F', R'⟩ := R.set (tk := s.toks) (o := .list ys) hl (fun b ob eb n1 _ => by rw [hs.2 b n1]; exact eb) (SameBut.live hs g') (by
    obtain ⟨p1, p2⟩ := p
    dsimp only at hpp
    refine Eq.symm hpp ▸ ?_
    exact .list g' (r.step F.step) z)
  exact ⟨ρ, F', R', hv _ F'⟩
theorem size_le_of {vs : List Value} {xs : List Val} (r : VRs cx ρ s.heap xs vs) (z : xs.length ≤ sizeLine) : vs.toArray.size ≤ sizeLine := by simp only [List.size_toArray]; rw [← r.length]; exact z
theorem simK_args {Φ : Funs} {Γ : Env'} {es : MEs} {xs : List Expr} {f : Value} {γ δ : Type} {g : List Val → M δ} {W : δ → γ → Amb} {K : List Value → (γ → Shared → Prop) → (Value → Shared → Prop) → Shared → Prop}
    (hn : xs = [] → es = .nil) (R : Rel cx H ρ s) (x : SimAt cx A (evalEs cx.T Φ es Γ H) (spliced (xs.map fun e => (false, eval e env))) (Amb.vrs cx) ρ s)
    (y : ∀ ms vs H' ρ' s', evalEs cx.T Φ es Γ H = .ok ms H' → Full ρ s.heap ρ' s'.heap → Rel cx H' ρ' s' → VRs cx ρ' s'.heap ms vs → SimK cx (g ms H') (K vs) W ρ' s') (mk : ∀ vs, MonoK (K vs)) :
    SimK cx ((evalEs cx.T Φ es Γ).bnd g H) (fun Q E s => wpAny (model cx.prog cx.w) A (evalArgs f true (xs.map fun e => (false, eval e env)) []) (fun a s₁ => a.kw = [] ∧ K a.pos Q E s₁) E s) W ρ s := by
  cases xs with
  | nil =>
    obtain rfl := hn rfl
    have e : evalEs cx.T Φ .nil Γ H = .ok [] H := rfl
    refine (y [] [] H ρ s e (Full.refl _ _) R .nil).mono fun Q E h => ?_
    exact evalArgs_none ⟨rfl, h⟩
  | cons e0 es0 =>
    refine SimAt.bindK (K := K) x y mk fun Q E h => ?_
    exact Calls.evalArgs_plain (wpAny_mono h (fun vs s' h' => ⟨rfl, h'⟩) fun _ _ q => q)
theorem any_false (args : List Expr) : (args.map fun e => (false, eval e env)).any (·.1) = false := by
  induction args with
  | nil => rfl
  | cons e es ih => rw [List.map_cons, List.any_cons, ih]; rfl
theorem monoK_wp {α : Type} (t : Sem α) : MonoK fun Q E s => wpAny (model cx.prog cx.w) A t Q E s := fun _ _ _ _ _ h k1 k2 => wpAny_mono h k1 k2
theorem simK_callB {Φ : Funs} {Γ : Env'} {es : MEs} {xs : List Expr} {pos : Pos} {id : String} {first : List Value} {g : List Val → M Val} (hn : xs = [] → es = .nil) (R : Rel cx H ρ s)
    (x : SimAt cx A (evalEs cx.T Φ es Γ H) (spliced (xs.map fun e => (false, eval e env))) (Amb.vrs cx) ρ s)
    (y : ∀ ms vs H' ρ' s', evalEs cx.T Φ es Γ H = .ok ms H' → Full ρ s.heap ρ' s'.heap → Rel cx H' ρ' s' → VRs cx ρ' s'.heap ms vs → SimAt cx A (g ms H') (call (.builtin id) (first ++ vs)) (Amb.vr cx) ρ' s') :
    SimAt cx A ((evalEs cx.T Φ es Γ).bnd g H) (callWith pos (.builtin id) first (xs.map fun e => (false, eval e env)) []) (Amb.vr cx) ρ s :=
  (simK_args (f := .builtin id) (K := fun vs Q E s => wpAny (model cx.prog cx.w) A (call (.builtin id) (first ++ vs)) Q E s) hn R x y (fun _ => monoK_wp _)).mono fun Q E h =>
    Calls.callWith_builtin (any_false _) (wpAny_mono h (fun a s₁ h₁ => by rw [h₁.1]; exact h₁.2) fun _ _ q => q)
noncomputable def bmAt : BM → String × String
  | .append => ("list", "list.append")
  | .dpop => ("dict", "dict.pop")
  | .remove => ("list", "list.remove")
  | .rstrip => ("str", "str.rstrip")
theorem bm_plain (m : BM) : PlainAttrs (bmAt m).1 := by
  cases m <;> first | exact F.plainAttrs_list | exact F.plainAttrs_dict | exact F.plainAttrs_str
theorem bm_slot (m : BM) : Slot (bmAt m).1 (bmName m).1 (bmAt m).2 := by
  cases m
  · exact F.slot_list_append
  · exact F.slot_dict_pop
  · exact F.slot_list_remove
  · exact F.slot_str_rstrip
set_option maxRecDepth 100000 in
theorem bm_desc (m : BM) : typeOf (.builtin (bmAt m).2) = pure (.type "method_descriptor") := by
  cases m <;> kernel_rfl
set_option tactic.hygienic true in
theorem bm_fits {m : BM} {b : Val} {v : Value} (R : Rel cx H ρ s) (x : VR cx ρ s.heap b v) (h : bmFits m b H = some ()) : s.TypeIs v (bmAt m).1 ∧ ∀ q, v = .ref q → ∃ ob, s.heap.get? q = some ob ∧ ob.dict = none := by
  cases x with
  | str y t z =>
    cases m <;> simp [bmFits] at h <;> exact ⟨typeIs_str _ _ _, fun q e => nomatch e⟩
  | @loc l p hp =>
    simp only [bmFits] at h
    split at h
    · rename_i xs hl
      have := list_head R hl hp
      cases m <;> simp at h <;> exact this
    · rename_i es hl
      refine ex1 (R.dictAt hl hp) fun xs zz => aNd3 zz fun _ D _ => ?_
      refine ex3 D fun o _ _ zz => aNd3 zz fun g ex _ => ?_
      have : s.TypeIs (.ref p.1) "dict" ∧ ∀ q, Value.ref p.1 = .ref q → ∃ ob, s.heap.get? q = some ob ∧ ob.dict = none := ⟨⟨_, g, ex.1⟩, fun q e => by cases e; exact ⟨_, g, ex.2.1⟩⟩
      cases m <;> simp at h <;> exact this
    · cases h
  | _ => cases m <;> cases h
theorem sim_bm {Φ : Funs} {Γ : Env'} {a : ME} {m : BM} {es : MEs} {o : Expr} {xs : List Expr} {apos pos : Pos} (hs : notSuper o = true) (hp : plainArgs env xs) (hz : xs.length ≤ 20) (hn : xs = [] → es = .nil) (hline : (apos.endLine == pos.line) = true)
    (x : Sim cx A P (eval o env) (evalE cx.T Φ a Γ) (Amb.vr cx)) (y : Sim cx A P (spliced (xs.map fun e => (false, eval e env))) (evalEs cx.T Φ es Γ) (Amb.vrs cx))
    (k : ∀ b v ms vs, ms.length = xs.length → Sim cx A ((Amb.vr cx b v).and (Amb.vrs cx ms vs)) (call (.builtin (bmAt m).2) (v :: vs)) (bmV m b ms) (Amb.vr cx)) (hlen : ∀ H ms H', evalEs cx.T Φ es Γ H = .ok ms H' → ms.length = xs.length) :
    Sim cx A P (eval (.Call (.Attribute o (bmName m).1 apos) xs [] pos) env) (evalE cx.T Φ (.bm a m es) Γ) (Amb.vr cx) := by
  intro H ρ s R p
  refine simK_method (T := (bmAt m).1) (id := (bmAt m).2) hs hp hz hline (bm_plain m) (bm_slot m) (bm_desc m) (x H ρ s R p) fun b v H1 ρ1 s1 _ F1 R1 vr => ?_
  refine SimK.lookK fun _ fit => ?_
  obtain ⟨t1, t2⟩ := bm_fits R1 vr fit
  refine SimK.mono (K := fun Q E s => wpAny (model cx.prog cx.w) A (callWith pos (.builtin (bmAt m).2) [v] (xs.map fun e => (false, eval e env)) []) Q E s) ?_ fun Q E h => ⟨t1, t2, h⟩
  refine simK_callB hn R1 (y H1 ρ1 s1 R1 (P.st _ _ _ _ p F1)) fun ms vs H2 ρ2 s2 e2 F2 R2 vrs => ?_
  exact k b v ms vs (hlen _ _ _ e2) H2 ρ2 s2 R2 ⟨vr.step F2.step, vrs⟩
end
end Mine
-- part MLm
namespace Mine
open PySem
section
variable {cx : Cx} {A : Around} {H : Hp} {ρ : Rho} {s : Shared}
theorem VRs.single {h : Heap} {ms : List Val} {vs : List Value} (y : VRs cx ρ h ms vs) (hl : ms.length = 1) : ∃ m u, ms = [m] ∧ vs = [u] ∧ VR cx ρ h m u := by
  cases y with
  | nil => cases hl
  | cons y0 y =>
    cases y with
    | nil => exact ⟨_, _, rfl, rfl, y0⟩
    | cons _ _ => cases hl
set_option tactic.hygienic true in
theorem bm_append (b : Val) (v : Value) (ms : List Val) (vs : List Value) (hl : ms.length = 1) : Sim cx A ((Amb.vr cx b v).and (Amb.vrs cx ms vs)) (call (.builtin "list.append") (v :: vs)) (bmV .append b ms) (Amb.vr cx) := by
  intro H ρ s R ⟨x, y⟩
  refine ex2 (VRs.single y hl) fun m u zz => aNd3 zz fun zr2 zr3 y0 => ?_; subst zr2; subst zr3
  cases x with
  | @loc l p hp =>
    show SimAt cx A (match H[l]? with
      | some (.list xs) => if xs.length < lid then Res.ok Val.none (H.set l (.list (xs ++ [m]))) else .bad
      | some (.dict es) => .bad
      | _ => .bad) _ _ ρ s
    split
    · rename_i xs e
      refine hideG fun G kG => ?_
      refine ex2 (R.listAt e hp) fun ws n zz => aNd4 zz fun hpp g r z => ?_
      refine kG ?_
      by_cases q : xs.length < lid
      · rw [if_pos q]
        rw [sizeLine_lid] at q
        refine call_meets F.slot_list_append ⟨_, g, rfl⟩ F.entry_list_append (F.args_list_append_2 _ _) (list_append p.1 ws.toArray n u (size_le_of r z)) ⟨g, ?_⟩
        exact simAt_seq R hp hpp g (fun x => x.push u) (by simpa using r.append (.one y0)) (by rw [List.length_append]; exact q) fun _ _ => .none
      · rw [if_neg q]; trivial
    · trivial
    · trivial
  | _ => trivial
theorem bm_rstrip (b : Val) (v : Value) (ms : List Val) (vs : List Value) (hl : ms.length = 0) : Sim cx A ((Amb.vr cx b v).and (Amb.vrs cx ms vs)) (call (.builtin "str.rstrip") (v :: vs)) (bmV .rstrip b ms) (Amb.vr cx) := by
  intro H ρ s R ⟨x, y⟩
  match ms, hl, y with
  | [], _, .nil =>
    cases x with
    | str y t z =>
      show SimAt cx A (if (Txt.rstrip y).length ≤ lid then Res.ok (Val.str (Txt.rstrip y)) H else .bad) _ _ ρ s
      by_cases q : (Txt.rstrip y).length ≤ lid
      · rw [if_pos q]
        rw [sizeLine_lid] at q
        exact simAt_pure R fun Q E k => SC.rstrip (fun t' tk => k _ _ (.str _ _ q)) z
      · rw [if_neg q]; trivial
    | _ => simp only [bmV]; (try split) <;> trivial
end
end Mine
-- part MRem
namespace Mine
open PySem PySem.MeetsSeq PySem.SeqAt
theorem remove_loopAt (l : Addr) (items : Array Value) (n : Nat) (x : Value) (e : Value → Bool) (j : Nat) (hj : j < items.size) (hit : e items[j] = true) (k : Nat) (hs1 : items.size ≤ sizeLine) :
    ∀ i : Nat, j - i = k → i ≤ j → (∀ m (hm : m < items.size), i ≤ m → m < j → e items[m] = false) → Meets (Builtin.«list.remove.loop» ⟨[.ref l, x, rawInt i], []⟩)
      (fun A R s => s.heap.get? l = some { cls := .type "list", dict := none, data := .seq items n, slots := #[] } ∧ (∀ y, y ∈ items → EqAt A.in1 s y x (e y)) ∧ R (.ok (.ret .none)) { s with heap := s.heap.update l (Obj.mapSeq fun xs => xs.eraseIdxIfInBounds j) }) := by
  induction k with
  | zero =>
    intro i hk hij hno prog w A R s h
    obtain ⟨hp, g, d, tk, os⟩ := s; refine aNd3 h fun hl he h => ?_
    have hij' : i = j := by exact o13 hk hij
    subst hij'
    wp_walk using wpAny_loadPart' hl
    have hi : items[((i : Nat) : Int).toNat]? = some items[i] := by simp [hj]
    rw [hi]
    refine wpAny_bind (he _ (Array.getElem_mem hj) prog w _ _ ?_)
    rw [hit]
    have hz' : (items.eraseIdxIfInBounds i).size ≤ sizeLine + 1 := Nat.le_trans (size_erased items _) (Nat.le_succ_of_le hs1)
    wp_walk using (wpAny_updateSeq hl rfl (hz := hs1) (_hz' := hz')), wpAny_loadPart' hl
    simpa using h
  | succ k ih =>
    intro i hk hij hno prog w A R s h
    obtain ⟨hp, g, d, tk, os⟩ := s; refine aNd3 h fun hl he h => ?_
    have hlt : i < items.size := by exact o14 hj hij
    wp_walk using wpAny_loadPart' hl
    have hi : items[((i : Nat) : Int).toNat]? = some items[i] := by simp [hlt]
    have hc : ((i : Int) + 1) = ((i + 1 : Nat) : Int) := by rfl
    rw [hi]
    refine wpAny_bind (he _ (Array.getElem_mem hlt) prog w _ _ ?_)
    rw [hno i hlt (Nat.le_refl _) (by exact o15 hk hij)]
    wp_walk
    exact ⟨plainId_quiet plain_remove_loop _, codeAny_builtin entry_remove_loop (by
      exact ih (i + 1) (by exact o16 hk hij) (by exact o17 hk hij) (fun m hm h1 h2 => hno m hm (by exact o18 h1) h2) prog w A R _ ⟨hl, he, h⟩)⟩
theorem list_removeAt (l : Addr) (items : Array Value) (n : Nat) (x : Value) (e : Value → Bool) (j : Nat) (hj : j < items.size)
    (hit : e items[j] = true) (hno : ∀ m (hm : m < items.size), m < j → e items[m] = false) (hs1 : items.size ≤ sizeLine) :
    Meets (Builtin.«list.remove» ⟨[.ref l, x], []⟩)
      (fun A R s => s.heap.get? l = some { cls := .type "list", dict := none, data := .seq items n, slots := #[] } ∧ (∀ y, y ∈ items → EqAt A.in1 s y x (e y)) ∧ R (.ok (.ret .none)) { s with heap := s.heap.update l (Obj.mapSeq fun xs => xs.eraseIdxIfInBounds j) }) := by
  intro prog w A R s h
  obtain ⟨hp, g, d, tk, os⟩ := s; refine aNd3 h fun hl he h => ?_
  wp_walk using wpAny_loadPart' hl
  exact ⟨plainId_quiet plain_remove_loop _, codeAny_builtin entry_remove_loop (by
    exact remove_loopAt l items n x e j hj hit _ hs1 0 rfl (Nat.zero_le _) (fun m hm _ h2 => hno m hm h2) prog w A R _ ⟨hl, he, h⟩)⟩
section
variable {cx : Cx} {A : Around} {H : Hp} {ρ : Rho} {s : Shared}
theorem VRs.erase {h : Heap} {ms : List Val} {vs : List Value} (r : VRs cx ρ h ms vs) (k : Nat) : VRs cx ρ h (ms.eraseIdx k) (vs.eraseIdx k) := by
  induction ms generalizing vs k with
  | nil => cases r; exact .nil
  | cons m' ms ih =>
    cases r with
    | cons b r =>
      cases k with
      | zero => exact r
      | succ k => exact .cons b (ih r k)
set_option tactic.hygienic true in
theorem bm_remove (hu : A.units + 100 < cLine) (b : Val) (v : Value) (ms : List Val) (vs : List Value) (hl : ms.length = 1) : Sim cx A ((Amb.vr cx b v).and (Amb.vrs cx ms vs)) (call (.builtin "list.remove") (v :: vs)) (bmV .remove b ms) (Amb.vr cx) := by
  intro H ρ s R ⟨x, y⟩
  match ms, hl, y with
  | [m], _, .cons (v := w) xm .nil =>
    cases x with
    | @loc l p hp =>
      show SimAt cx A (match H[l]? with
        | some (.list xs) => (match removeAt H m xs with
          | some j => Res.ok Val.none (H.set l (.list (xs.eraseIdx j)))
          | none => .bad)
        | some (.dict es) => .bad
        | _ => .bad) _ _ ρ s
      split
      · rename_i xs e
        split
        · rename_i j hj
          refine hideG fun G kG => ?_
          refine ex2 (R.listAt e hp) fun ws n zz => aNd4 zz fun hpp g r z => ?_
          refine kG ?_
          unfold removeAt at hj
          split at hj
          · rename_i d ds e1 e2
            refine hideG fun G kG => ?_
            refine aNd3 (reads_data R deep xm e1) fun zn0 g2 g3 => ?_; obtain ⟨as, g1⟩ := zn0
            refine aNd3 (reads_dats (n := deep) (fun x h => reads_data R deep x h) r e2) fun zn0 f2 f3 => ?_; obtain ⟨bs, f1⟩ := zn0
            have em := readsAll_map ds ws bs f2 f1
            rw [List.findIdx?_eq_some_iff_getElem] at hj
            refine ex1 hj fun lj zz => aNd2 zz fun h1 h2 => ?_
            refine kG ?_
            have hu' : A.units + 1 + min (PyData.depthAll ds) d.depth < cLine := by
              have := Nat.min_le_right (PyData.depthAll ds) d.depth
              have : deep = 6 := rfl
              omega
            have lw : ws.length = ds.length := by rw [← em, List.length_map]
            have at_ : ∀ (i : Nat) (h : i < ws.toArray.size), PyData.eqv (readOf s.heap ws.toArray[i]) d = PyData.eqv (ds[i]'(by rw [← lw]; simpa using h)) d := fun i h => by
              congr 1
              subst em
              rw [List.getElem_map]; rfl
            refine call_meets F.slot_list_remove ⟨_, g, rfl⟩ F.entry_list_remove (F.args_list_remove_2 _ _) (list_removeAt p.1 ws.toArray n w (fun y => PyData.eqv (readOf s.heap y) d) j (by simpa [lw] using lj) (by rw [at_]; exact h1) (fun m hm lt => by rw [at_]; simpa using h2 m lt) (size_le_of r z)) ⟨g, items_eqAt (by simpa using f1) g1 f2 g2 hu', ?_⟩
            exact simAt_seq R hp hpp g (fun x => x.eraseIdxIfInBounds j) (by simpa using VRs.erase r j) (by rw [List.length_eraseIdx]; split <;> omega) fun _ _ => .none
          · exact nomatch hj
        · trivial
      · trivial
      · trivial
    | _ => trivial
end
end Mine
-- part MDict
namespace Mine
open PySem
section
variable {prog : Program} {w : World} {K : Type} [DecidableEq K] {knd : HeapKind prog w K} {A : Around} {E : Value → Shared → Prop} {s : Shared}
theorem erase_map {α β : Type} (f : α → β) (l : List α) (j : Nat) : (l.map f).eraseIdx j = (l.eraseIdx j).map f := by
  induction l generalizing j with
  | nil => rfl
  | cons a l ih =>
    cases j with
    | zero => rfl
    | succ j => exact congrArg (f a :: ·) (ih j)
theorem takeOut_heap {d a : Addr} {xs : List (K × Addr × Value)} {k : K} {p : Addr × Value} {Q : Option DictEntry → Shared → Prop} (hu : knd.room A) (hkey : knd.is s.heap k a) (hm : s.heap.DictOfH knd d xs) (hp : atKey xs k = some p) (hz : xs.length ≤ sizeLine)
    (hQ : ∀ j h', xs[j]? = some (k, p) → h'.DictOfH knd d (xs.eraseIdx j) → Heap.SameBut d s.heap h' → Q (some (entryOfKey knd (k, p))) { s with heap := h', toks := s.toks + knd.draws k }) : wpAny (model prog w) A (Builtin.Dict.takeOut d (.ref a)) Q E s := by
  refine hideG fun G kG => ?_
  refine ex3 hm fun o es ep zz => aNd6 zz fun ho hc hd he his hn => ?_
  refine kG ?_
  have hes : es.size ≤ sizeLine := by rw [size_of_entries he]; exact hz
  unfold Builtin.Dict.takeOut
  try with_reducible refine wpAny_holding ?_
  refine wpAny_bind (knd.pyHash hu hkey (wpAny_bind (wpAny_dictFind_heap (s := { s with toks := s.toks + knd.draws k }) hu hkey ho hd he his hn ?_ ?_)))
  · intro hno
    rw [atKey_none_of_get hno] at hp; exact nomatch hp
  · intro j q hj
    have e := atKey_of_get hn hj
    rw [hp] at e; cases e
    refine wpAny_bind (wpAny_dictEntries (s := { s with toks := s.toks + knd.draws k }) ho hd ?_)
    rw [entry_at he j, hj]
    refine wpAny_bind (wpAny_updateDictKeys (hz := hes) (s := { s with toks := s.toks + knd.draws k }) ho hd (wpAny_pure (hQ j _ hj ⟨_, _, ep + 1, Heap.get?_update_self _ ho (Obj.isFreed_of_dict (Obj.data_mapDictKeys hd _)),
      hc.mapDictKeys _, Obj.data_mapDictKeys hd _, ?_, fun x hx => knd.keeps (his x (List.mem_of_mem_eraseIdx hx)) ho hd (Heap.SameBut.update ..), ?_⟩ (Heap.SameBut.update ..))))
    · obtain ⟨l⟩ := es
      simp only [List.eraseIdxIfInBounds_toArray]
      rw [show l = xs.map (entryOfKey knd) from he, erase_map]
    · rw [← erase_map]
      exact hn.sublist (List.eraseIdx_sublist _ _)
theorem dict_pop_heap {d a : Addr} {xs : List (K × Addr × Value)} {k : K} {p : Addr × Value} {Q : Value → Shared → Prop} (hu : knd.room A.in1) (hkey : knd.is s.heap k a) (hm : s.heap.DictOfH knd d xs) (hp : atKey xs k = some p) (hz : xs.length ≤ sizeLine)
    (hQ : ∀ j h', xs[j]? = some (k, p) → h'.DictOfH knd d (xs.eraseIdx j) → Heap.SameBut d s.heap h' → Q p.2 { s with heap := h', toks := s.toks + knd.draws k }) : wpAny (model prog w) A (call (.builtin "dict.pop") [.ref d, .ref a]) Q E s := by
  refine wpAny_call_entry F.slot_dict_pop hm.typeIs F.entry_dict_pop ?_ (F.args_dict_pop_2 _ _)
  have hm' := hm
  refine hideG fun G kG => ?_
  refine ex3 hm fun o es ep zz => aNd6 zz fun ho hc hd he _ _ => ?_
  refine kG ?_
  unfold Builtin.«dict.pop»
  refine wpAny_bind ?_
  unfold Builtin.Dict.keyAndDefault
  refine wpAny_bind (wpAny_notOrdered_dict hm'.typeIs ?_)
  refine wpAny_pure ?_
  have ne : es.isEmpty = false := by
    rw [Array.isEmpty_eq_false_iff_exists_mem]
    refine ex1 (Option.map_eq_some_iff.mp hp) fun x zz => aNd2 zz fun hx _ => ?_
    exact ⟨_, Array.mem_toList_iff.mp (by rw [he]; exact List.mem_map.mpr ⟨x, List.mem_of_find?_eq_some hx, rfl⟩)⟩
  have hpart : (keyPart (.ref a)).isSome = false := rfl
  simp only [hpart, Bool.false_eq_true, if_false]
  refine wpAny_bind (wpAny_dictEntries ho hd (wpAny_bind (wpAny_pure ?_)))
  simp only [ne, Bool.false_eq_true, if_false]
  refine wpAny_bind (takeOut_heap hu hkey hm' hp hz fun j h' hj hm2 hs => ?_)
  simp only [Option.isNone_some, Bool.false_eq_true, if_false]
  exact wpAny_bind (wpAny_letGo (wpAny_pure ⟨p.2, rfl, hQ j h' hj hm2 hs⟩))
end
section
variable {prog : Program} {w : World} {K : Type} [DecidableEq K] {knd : HeapKind prog w K}
theorem stored_keys {h : Heap} {xs : List (K × Addr × Value)} {k : K} {a : Addr} {v : Value} (ks : ∀ x ∈ xs, knd.is h x.1 x.2.1) (hk : knd.is h k a) : ∀ x ∈ storedH xs k a v, knd.is h x.1 x.2.1 := by
  intro x hx
  unfold storedH at hx
  by_cases q : (atKey xs k).isSome = true
  · rw [if_pos q] at hx
    refine ex1 (List.mem_map.mp hx) fun y zz => aNd2 zz fun hy hr0 => ?_; refine hr0 ▸ ?_
    unfold putAt
    by_cases e : y.1 = k
    · rw [if_pos e]; exact ks y hy
    · rw [if_neg e]; exact ks y hy
  · rw [if_neg q] at hx
    rcases List.mem_append.mp hx with hx | hx
    · exact ks x hx
    · rw [List.mem_singleton.mp hx]; exact hk
end
section
variable {cx : Cx} {A : Around} {P : Amb} {H : Hp} {ρ : Rho} {s : Shared} {h : Heap}
theorem DRs.length {es : List (Key × Val)} {xs : List (List Int × Addr × Value)} (r : DRs cx ρ h es xs) : xs.length = es.length := by
  induction r with
  | nil => rfl
  | cons _ _ _ ih => exact congrArg (· + 1) ih
theorem key_ne {k k' : Key} (q : ¬ k' = k) : ¬ ([k'.1, k'.2] = [k.1, k.2]) := fun e => q (by
  simp only [List.cons.injEq, and_true] at e
  exact Prod.ext e.1 e.2)
theorem DRs.put {es : List (Key × Val)} {xs : List (List Int × Addr × Value)} {k : Key} {a : Addr} {m : Val} {v : Value} (r : DRs cx ρ h es xs) (hn : (xs.map (·.1)).Nodup) (x : VR cx ρ h m v) (no : ¬ Owned ρ a) : DRs cx ρ h (dput es k m) (storedH xs [k.1, k.2] a v) := by
  induction r with
  | nil => exact .cons x no .nil
  | @cons k' v' b y es xs a' n r ih =>
    rw [List.map_cons, List.nodup_cons] at hn
    by_cases q : k' = k
    · refine q ▸ ?_
      have e1 : storedH (([k'.1, k'.2], b, y) :: xs) [k'.1, k'.2] a v = ([k'.1, k'.2], b, v) :: xs := by
        unfold storedH
        rw [if_pos (by simp [PySem.atKey]), List.map_cons]
        congr 1
        · simp [putAt]
        · refine (List.map_congr_left fun z hz => ?_).trans (List.map_id _)
          unfold putAt
          rw [if_neg fun e => hn.1 (List.mem_map.mpr ⟨z, hz, e⟩)]; rfl
      rw [e1]
      show DRs cx ρ h (if k' = k' then _ else _) _
      rw [if_pos rfl]
      exact .cons x n r
    · have q' := key_ne q
      have e2 : PySem.atKey (([k'.1, k'.2], b, y) :: xs) [k.1, k.2] = PySem.atKey xs [k.1, k.2] := by
        unfold PySem.atKey
        rw [List.find?_cons]
        simp only [decide_eq_false q']
      have e1 : storedH (([k'.1, k'.2], b, y) :: xs) [k.1, k.2] a v = ([k'.1, k'.2], b, y) :: storedH xs [k.1, k.2] a v := by
        unfold storedH
        rw [e2]
        split
        · rw [List.map_cons]; congr 1
          unfold putAt; rw [if_neg q']
        · rfl
      rw [e1]
      show DRs cx ρ h (if k' = k then _ else _) _
      rw [if_neg q]
      exact .cons a' n (ih hn.2)
theorem DRs.del {es : List (Key × Val)} {xs : List (List Int × Addr × Value)} {k : Key} {j : Nat} {p : Addr × Value} (r : DRs cx ρ h es xs) (hn : (xs.map (·.1)).Nodup) (hj : xs[j]? = some ([k.1, k.2], p)) : DRs cx ρ h (ddel es k) (xs.eraseIdx j) := by
  induction r generalizing j with
  | nil => cases hj
  | @cons k' v' b y es xs a' n r ih =>
    rw [List.map_cons, List.nodup_cons] at hn
    show DRs cx ρ h (if k' = k then _ else _) _
    cases j with
    | zero =>
      have e := Option.some.inj hj
      have : k' = k := by
        have e := congrArg Prod.fst e
        simp only [List.cons.injEq, and_true] at e
        exact Prod.ext e.1 e.2
      rw [if_pos this]; exact r
    | succ j =>
      have hj' : xs[j]? = some ([k.1, k.2], p) := hj
      have : ¬ k' = k := fun e => hn.1 (e ▸ List.mem_map.mpr ⟨_, List.mem_of_getElem? hj', rfl⟩)
      rw [if_neg this]
      exact .cons a' n (ih hn.2 hj')
theorem DRs.sub {es : List (Key × Val)} {xs : List (List Int × Addr × Value)} {k : Key} {m : Val} (r : DRs cx ρ s.heap es xs) (h : dget es k = some m) : ∃ p, PySem.atKey xs [k.1, k.2] = some p ∧ VR cx ρ s.heap m p.2 := by
  have a := r.atKey k
  rw [h] at a
  cases e : PySem.atKey xs [k.1, k.2] with
  | none => rw [e] at a; exact a.elim
  | some p => rw [e] at a; exact ⟨p, rfl, a⟩
theorem dput_length (es : List (Key × Val)) (k : Key) (v : Val) : (dput es k v).length ≤ es.length + 1 := by
  induction es with
  | nil => exact Nat.le_refl _
  | cons e es ih =>
    show (if e.1 = k then _ else _ : List (Key × Val)).length ≤ _
    by_cases q : e.1 = k
    · rw [if_pos q]; exact Nat.le_succ _
    · rw [if_neg q]; exact Nat.succ_le_succ ih
theorem ddel_length (es : List (Key × Val)) (k : Key) : (ddel es k).length ≤ es.length := by
  induction es with
  | nil => exact Nat.le_refl _
  | cons e es ih =>
    show (if e.1 = k then _ else _ : List (Key × Val)).length ≤ _
    by_cases q : e.1 = k
    · rw [if_pos q]; exact Nat.le_succ _
    · rw [if_neg q]; exact Nat.succ_le_succ ih
theorem dict_set {l : Nat} {p : Addr × Addr} {es : List (Key × Val)} {xs : List (List Int × Addr × Value)} {h' : Heap} {tk : Nat} (R : Rel cx H ρ s) (hl : ρ[l]? = some p) (hpp : p.2 = p.1) (hm : h'.DictOfH (cellKind cx) p.1 xs) (hs : Heap.SameBut p.1 s.heap h')
    (hk : ∀ x ∈ xs, (cellKind cx).is s.heap x.1 x.2.1) (r : DRs cx ρ s.heap es xs) (z : es.length ≤ sizeLine) : Full ρ s.heap ρ h' ∧ Rel cx (H.set l (.dict es)) ρ { s with heap := h', toks := tk } := by
  have hm' := hm
  refine hideG fun G kG => ?_
  refine ex3 hm fun o _ _ zz => aNd2 zz fun e' _ => ?_
  refine kG ?_
  have F := Full.own ⟨p, List.mem_of_getElem? hl, .inl rfl⟩ e' hs
  refine R.set hl (fun b ob eb n1 _ => by rw [hs.2 b n1]; exact eb) (SameBut.live hs e') ?_
  obtain ⟨p1, p2⟩ := p
  dsimp only at hpp
  refine Eq.symm hpp ▸ ?_
  exact .dict hm' (r.step F.step hk) z
theorem sim_dict {env : Env} {Φ : Funs} {Γ : Env'} {pos : Pos} : Sim cx A P (eval (.Dict [] [] pos) env) (evalE cx.T Φ .dict Γ) (Amb.vr cx) := by
  intro H ρ s R p
  refine wpAny_Dict_empty ?_
  have kp : ∀ b o, s.heap.get? b = some o → (s.heap.push { cls := .type "dict", data := .dict #[] }).get? b = some o := fun b o e => Heap.get?_push_of_some _ e
  obtain ⟨F, R'⟩ := R.alloc (tk := s.toks) (o := .dict []) (p := (s.heap.objs.size, s.heap.objs.size)) kp ⟨fresh_none _, fresh_none _⟩
    (.dict (Heap.DictOfH.new _) .nil (Nat.zero_le _))
  refine ⟨_, F, R', ?_⟩
  rw [R.len]
  exact VR.loc (p := (s.heap.objs.size, s.heap.objs.size)) (by rw [List.getElem?_append_right (Nat.le_refl _)]; simp)
set_option tactic.hygienic true in
theorem bm_dpop (hu : A.units + 100 < cLine) (b : Val) (v : Value) (ms : List Val) (vs : List Value) (hl : ms.length = 1) : Sim cx A ((Amb.vr cx b v).and (Amb.vrs cx ms vs)) (call (.builtin "dict.pop") (v :: vs)) (bmV .dpop b ms) (Amb.vr cx) := by
  intro H ρ s R ⟨x, y⟩
  match ms, hl, y with
  | [m], _, .cons (v := u) y0 .nil =>
    cases x with
    | @loc l p hp =>
      show SimAt cx A (match H[l]? with
        | some (.list xs) => .bad
        | some (.dict es) => (match keyOf m with
          | some k => (match dget es k with
            | some v => Res.ok v (H.set l (.dict (ddel es k)))
            | none => .bad)
          | none => .bad)
        | _ => .bad) _ _ ρ s
      split
      · trivial
      · rename_i es e
        cases ek : keyOf m with
        | none => trivial
        | some k =>
          cases eg : dget es k with
          | none => simp only [eg]; trivial
          | some r =>
            simp only [eg]
            refine hideG fun G kG => ?_
            refine ex1 (R.dictAt e hp) fun xs zz => aNd4 zz fun hpp D rr z => ?_
            refine ex1 (key_is y0 ek) fun bb zz => aNd3 zz fun zr1 hk no => ?_; subst zr1
            refine ex1 (rr.sub eg) fun q zz => aNd2 zz fun hq vr => ?_
            have D' := D
            refine ex3 D' fun _ _ _ zz => aNd6 zz fun _ _ _ _ ks nd => ?_
            refine kG ?_
            refine dict_pop_heap (knd := cellKind cx) (tupleKind_room_in1 (by exact o9 hu)) hk D hq (by rw [rr.length]; exact z) fun j h' hj hm hs => ?_
            obtain ⟨F, R'⟩ := dict_set (tk := s.toks + (cellKind cx).draws [k.1, k.2]) R hp hpp hm hs (fun x hx => ks x (List.mem_of_mem_eraseIdx hx)) (rr.del nd hj) (Nat.le_trans (ddel_length es k) z)
            exact ⟨ρ, F, R', vr.step F.step⟩
      · trivial
    | _ => trivial
end
end Mine
-- part MInv
namespace Mine
open PySem
section
variable {N : Names} {sc : Scope} {ns : List (Option Str)} {a b c : ME} {e : Expr} {es : MEs} {op op1 op2 : COp}
theorem inv_none (h : ck N sc ns .none e = true) : ∃ k pos, e = .Constant .none k pos := by
  obtain ⟨t, h⟩ := seen_of h
  exact ⟨_, _, t.2.trans (congrArg (fun c => Expr.Constant c t.1.2.1 t.1.2.2) (said h))⟩
theorem inv_bool {v : Bool} (h : ck N sc ns (.bool v) e = true) : ∃ k pos, e = .Constant (.bool v) k pos := by
  obtain ⟨t, h⟩ := seen_of h
  obtain ⟨u, h⟩ := seen_of h
  exact ⟨_, _, t.2.trans (congrArg (fun c => Expr.Constant c t.1.2.1 t.1.2.2) (u.2.trans (congrArg Const.bool (eq_of_beq h).symm)))⟩
theorem inv_int {v : Int} (h : ck N sc ns (.int v) e = true) : ∃ k pos, e = .Constant (.int v) k pos := by
  obtain ⟨t, h⟩ := seen_of h
  obtain ⟨u, h⟩ := seen_of h
  exact ⟨_, _, t.2.trans (congrArg (fun c => Expr.Constant c t.1.2.1 t.1.2.2) (u.2.trans (congrArg Const.int (of_decide_eq_true h).symm)))⟩
theorem inv_str {v : Str} (h : ck N sc ns (.str v) e = true) : ∃ k pos, e = .Constant (.str v) k pos ∧ v.length ≤ 1000 := by
  obtain ⟨t, h⟩ := seen_of h
  obtain ⟨u, h⟩ := seen_of h
  exact ⟨_, _, t.2.trans (congrArg (fun c => Expr.Constant c t.1.2.1 t.1.2.2) (u.2.trans (congrArg Const.str (of_decide_eq_true (an1 h)).symm))), of_decide_eq_true (an2 h)⟩
theorem inv_glob {k : Nat} (h : ck N sc ns (.glob k) e = true) : ∃ x pos, e = .Name x pos ∧ isGlob sc x = true ∧ hasNo N.globs x k = true := by
  obtain ⟨t, h⟩ := seen_of h
  exact ⟨_, _, t.2, an1 h, an2 h⟩
theorem inv_var {k : Nat} (h : ck N sc ns (.var k) e = true) : ∃ x pos, e = .Name x pos ∧ isVar sc ns k x = true := by
  obtain ⟨t, h⟩ := seen_of h
  exact ⟨_, _, t.2, h⟩
theorem inv_bin {op : BOp} (h : ck N sc ns (.bin op a b) e = true) : ∃ l o r pos, e = .BinOp l o r pos ∧ opOk op o = true ∧ ck N sc ns a l = true ∧ ck N sc ns b r = true := by
  obtain ⟨t, h⟩ := seen_of h
  exact ⟨_, _, _, _, t.2, an1 (an1 h), an2 (an1 h), an2 h⟩
theorem inv_neg (h : ck N sc ns (.neg a) e = true) : ∃ x pos, e = .UnaryOp .USub x pos ∧ ck N sc ns a x = true := by
  obtain ⟨t, h⟩ := seen_of h
  exact ⟨_, _, t.2.trans (congrArg (fun o => Expr.UnaryOp o t.1.2.1 t.1.2.2) (said (an1 h))), an2 h⟩
theorem inv_not (h : ck N sc ns (.not a) e = true) : ∃ x pos, e = .UnaryOp .Not x pos ∧ ck N sc ns a x = true := by
  obtain ⟨t, h⟩ := seen_of h
  exact ⟨_, _, t.2.trans (congrArg (fun o => Expr.UnaryOp o t.1.2.1 t.1.2.2) (said (an1 h))), an2 h⟩
theorem inv_and (h : ck N sc ns (.and a b) e = true) : ∃ x y rest pos, e = .BoolOp .And (x :: y :: rest) pos ∧ ck N sc ns a x = true ∧ ((rest = [] ∧ ck N sc ns b y = true) ∨ ck N sc ns b (.BoolOp .And (y :: rest) pos) = true) := by
  refine hideG fun G kG => ?_
  obtain ⟨t, h⟩ := seen_of h
  obtain ⟨⟨⟨x, y, rest⟩, z2⟩, h2⟩ := seen_of (an2 h)
  refine kG ?_
  refine ⟨x, y, rest, t.1.2.2, t.2.trans ((congrArg (fun o => Expr.BoolOp o t.1.2.1 t.1.2.2) (said (an1 h))).trans (congrArg (fun o => Expr.BoolOp .And o t.1.2.2) z2)), an1 h2, ?_⟩
  cases rest with
  | nil => exact .inl ⟨rfl, an2 h2⟩
  | cons _ _ => exact .inr (an2 h2)
theorem inv_or (h : ck N sc ns (.or a b) e = true) : ∃ x y rest pos, e = .BoolOp .Or (x :: y :: rest) pos ∧ ck N sc ns a x = true ∧ ((rest = [] ∧ ck N sc ns b y = true) ∨ ck N sc ns b (.BoolOp .Or (y :: rest) pos) = true) := by
  obtain ⟨t, h⟩ := seen_of h
  obtain ⟨⟨⟨x, y, rest⟩, z2⟩, h2⟩ := seen_of (an2 h)
  refine ⟨x, y, rest, t.1.2.2, t.2.trans ((congrArg (fun o => Expr.BoolOp o t.1.2.1 t.1.2.2) (said (an1 h))).trans (congrArg (fun o => Expr.BoolOp .Or o t.1.2.2) z2)), an1 h2, ?_⟩
  cases rest with
  | nil => exact .inl ⟨rfl, an2 h2⟩
  | cons _ _ => exact .inr (an2 h2)
theorem inv_cmp (h : ck N sc ns (.cmp op a b) e = true) : ∃ l r pos, e = .Compare l [cmOp op] [r] pos ∧ ck N sc ns a l = true ∧ ck N sc ns b r = true ∧ notSet r = true := by
  obtain ⟨t, h⟩ := seen_of h
  obtain ⟨u, h2⟩ := seen_of (an2 h)
  exact ⟨_, _, _, t.2.trans ((congrArg (fun o => Expr.Compare t.1.1 o t.1.2.2.1 t.1.2.2.2) (of_decide_eq_true (an1 h))).trans (congrArg (fun o => Expr.Compare t.1.1 _ o t.1.2.2.2) u.2)), an1 (an1 h2), an2 (an1 h2), an2 h2⟩
theorem inv_cmp2 (h : ck N sc ns (.cmp2 op1 op2 a b c) e = true) : ∃ l m r pos, e = .Compare l [cmOp op1, cmOp op2] [m, r] pos ∧ ck N sc ns a l = true ∧ ck N sc ns b m = true ∧ ck N sc ns c r = true ∧ notSet r = true := by
  obtain ⟨t, h⟩ := seen_of h
  obtain ⟨u, h2⟩ := seen_of (an2 h)
  exact ⟨_, _, _, _, t.2.trans ((congrArg (fun o => Expr.Compare t.1.1 o t.1.2.2.1 t.1.2.2.2) (of_decide_eq_true (an1 h))).trans (congrArg (fun o => Expr.Compare t.1.1 _ o t.1.2.2.2) u.2)), an1 (an1 (an1 h2)), an2 (an1 (an1 h2)), an2 (an1 h2), an2 h2⟩
theorem inv_sub (h : ck N sc ns (.sub a b) e = true) : ∃ v s pos, e = .Subscript v s pos ∧ ck N sc ns a v = true ∧ ck N sc ns b s = true := by
  obtain ⟨t, h⟩ := seen_of h
  exact ⟨_, _, _, t.2, an1 h, an2 h⟩
theorem inv_slice {lo hi : MEo} (h : ck N sc ns (.slice a lo hi) e = true) : ∃ v l u p pos, e = .Subscript v (.Slice l u none p) pos ∧ ck N sc ns a v = true ∧ ckO N sc ns lo l = true ∧ ckO N sc ns hi u = true := by
  obtain ⟨t, h⟩ := seen_of h
  obtain ⟨u, h⟩ := seen_of h
  exact ⟨_, _, _, _, _, t.2.trans (congrArg (fun o => Expr.Subscript t.1.1 o t.1.2.2) (u.2.trans (congrArg (fun o => Expr.Slice u.1.1 u.1.2.1 o u.1.2.2.2) (said (an2 h))))), an1 (an1 (an1 h)), an2 (an1 (an1 h)), an2 (an1 h)⟩
theorem inv_tup (h : ck N sc ns (.tup es) e = true) : ∃ xs k pos, e = .Tuple xs k pos ∧ ckEs N sc ns es xs = true ∧ xs.length ≤ 1000 := by
  obtain ⟨t, h⟩ := seen_of h
  exact ⟨_, _, _, t.2, an1 h, of_decide_eq_true (an2 h)⟩
theorem inv_list (h : ck N sc ns (.list es) e = true) : ∃ xs pos, e = .List xs pos ∧ ckEs N sc ns es xs = true ∧ xs.length ≤ 1000 := by
  obtain ⟨t, h⟩ := seen_of h
  exact ⟨_, _, t.2, an1 h, of_decide_eq_true (an2 h)⟩
theorem inv_dict (h : ck N sc ns .dict e = true) : ∃ pos, e = .Dict [] [] pos := by
  obtain ⟨t, h⟩ := seen_of h
  exact ⟨t.1.2.2, t.2.trans (by rw [List.isEmpty_iff.mp (an1 h), List.isEmpty_iff.mp (an2 h)])⟩
theorem inv_attr {n : Nat} (h : ck N sc ns (.attr a n) e = true) : ∃ v y pos, e = .Attribute v y pos ∧ ck N sc ns a v = true ∧ hasNo N.attrs y n = true ∧ notSuper v = true := by
  obtain ⟨t, h⟩ := seen_of h
  exact ⟨_, _, _, t.2, an1 (an1 h), an2 (an1 h), an2 h⟩
theorem inv_call {f : Nat} (h : ck N sc ns (.call f es) e = true) : ∃ x np xs pos, e = .Call (.Name x np) xs [] pos ∧ isGlob sc x = true ∧ hasNo N.funs x f = true ∧ ckEs N sc ns es xs = true ∧ xs.length ≤ 20 := by
  obtain ⟨t, h⟩ := seen_of h
  exact ⟨_, _, _, _, t.2, an1 (an1 (an1 h)), an2 (an1 (an1 h)), an2 (an1 h), of_decide_eq_true (an2 h)⟩
theorem inv_new {f : Nat} (h : ck N sc ns (.new f es) e = true) : ∃ x np xs pos, e = .Call (.Name x np) xs [] pos ∧ isGlob sc x = true ∧ hasNo N.clss x f = true ∧ ckEs N sc ns es xs = true ∧ xs.length ≤ 20 := by
  obtain ⟨t, h⟩ := seen_of h
  exact ⟨_, _, _, _, t.2, an1 (an1 (an1 h)), an2 (an1 (an1 h)), an2 (an1 h), of_decide_eq_true (an2 h)⟩
theorem inv_umeth {m : Nat} (h : ck N sc ns (.umeth a m es) e = true) : ∃ o y apos xs pos, e = .Call (.Attribute o y apos) xs [] pos ∧ ck N sc ns a o = true ∧ hasNo N.meths y m = true ∧ ckEs N sc ns es xs = true ∧ xs.length ≤ 20 ∧ notSuper o = true ∧ (apos.endLine == pos.line) = true := by
  obtain ⟨t, h⟩ := seen_of h
  exact ⟨_, _, _, _, _, t.2.1, an1 (an1 (an1 (an1 h))), an2 (an1 (an1 (an1 h))), an2 (an1 (an1 h)), of_decide_eq_true (an2 (an1 h)), an2 h, t.2.2⟩
theorem inv_bf {f : BF} (h : ck N sc ns (.bf f es) e = true) : ∃ x np xs pos, e = .Call (.Name x np) xs [] pos ∧ isGlob sc x = true ∧ (bfName f).1 = x ∧ (bfName f).2 = xs.length ∧ ckEs N sc ns es xs = true := by
  obtain ⟨t, h⟩ := seen_of h
  exact ⟨_, _, _, _, t.2, an1 (an1 (an1 h)), of_decide_eq_true (an2 (an1 (an1 h))), of_decide_eq_true (an2 (an1 h)), an2 h⟩
theorem inv_bm {m : BM} (h : ck N sc ns (.bm a m es) e = true) : ∃ o y apos xs pos, e = .Call (.Attribute o y apos) xs [] pos ∧ ck N sc ns a o = true ∧ (bmName m).1 = y ∧ (bmName m).2 = xs.length ∧ ckEs N sc ns es xs = true ∧ notSuper o = true ∧ (apos.endLine == pos.line) = true := by
  obtain ⟨t, h⟩ := seen_of h
  exact ⟨_, _, _, _, _, t.2.1, an1 (an1 (an1 (an1 h))), of_decide_eq_true (an2 (an1 (an1 (an1 h)))), of_decide_eq_true (an2 (an1 (an1 h))), an2 (an1 h), an2 h, t.2.2⟩
theorem inv_isinst {t : Ty} (h : ck N sc ns (.isinst a t) e = true) : ∃ f np x y yp pos, e = .Call (.Name f np) [x, .Name y yp] [] pos ∧ isGlob sc f = true ∧ f = ("isinstance" : Str) ∧ isGlob sc y = true ∧ ck N sc ns a x = true ∧ tyOk N y t = true := by
  refine hideG fun G kG => ?_
  obtain ⟨p, h⟩ := seen_of h
  obtain ⟨u, h⟩ := seen_of h
  obtain ⟨w, h⟩ := seen_of h
  refine kG ?_
  exact ⟨_, _, _, _, _, _, p.2.trans (congrArg (fun xs => Expr.Call (.Name p.1.1 p.1.2.1) xs [] p.1.2.2.2) (u.2.trans (congrArg (fun y => [u.1.1, y]) w.2))), an1 (an1 (an1 (an1 h))), of_decide_eq_true (an2 (an1 (an1 (an1 h)))), an2 (an1 (an1 h)), an2 (an1 h), an2 h⟩
theorem inv_comp {elt it : ME} {cond : MEo} (h : ck N sc ns (.comp elt it cond) e = true) : ∃ el x px i ifs csc pos, e = .ListComp el [⟨.Name x px, i, ifs, 0⟩] csc pos ∧ ck N sc ns it i = true ∧ notSet i = true ∧ compOk sc csc x = true ∧
    ck N csc (inner csc ns ++ [some x]) elt el = true ∧ ckC N csc (inner csc ns ++ [some x]) cond ifs = true := by
  obtain ⟨t, h⟩ := seen_of h
  obtain ⟨u, h⟩ := seen_of h
  exact ⟨_, _, _, _, _, _, _, t.2.trans (congrArg (fun g => Expr.ListComp t.1.1 g t.1.2.2.1 t.1.2.2.2) u.2), an1 (an1 (an1 (an1 h))), an2 (an1 (an1 (an1 h))), an2 (an1 (an1 h)), an2 (an1 h), an2 h⟩
noncomputable def formOk (comp : Bool) : Expr → Bool
  | .Constant .. => true
  | .Name .. => true
  | .BinOp .. => true
  | .UnaryOp .. => true
  | .BoolOp .. => true
  | .Compare .. => true
  | .Subscript .. => true
  | .Tuple .. => true
  | .List .. => true
  | .Dict .. => true
  | .Attribute .. => true
  | .Call .. => true
  | .ListComp .. => comp
  | _ => false
noncomputable def isComp : ME → Bool
  | .comp .. => true
  | _ => false
theorem form_of {e e' : Expr} {c : Bool} (h : e = e') (k : formOk c e' = true) : formOk c e = true := h ▸ k
theorem ck_head {m : ME} (h : ck N sc ns m e = true) : formOk (isComp m) e = true := by
  cases m with
  | none => obtain ⟨t, _⟩ := seen_of h; exact form_of t.2 rfl
  | bool v => obtain ⟨t, _⟩ := seen_of h; exact form_of t.2 rfl
  | int v => obtain ⟨t, _⟩ := seen_of h; exact form_of t.2 rfl
  | str v => obtain ⟨t, _⟩ := seen_of h; exact form_of t.2 rfl
  | glob k => obtain ⟨t, _⟩ := seen_of h; exact form_of t.2 rfl
  | var k => obtain ⟨t, _⟩ := seen_of h; exact form_of t.2 rfl
  | bin op a b => obtain ⟨t, _⟩ := seen_of h; exact form_of t.2 rfl
  | neg a => obtain ⟨t, _⟩ := seen_of h; exact form_of t.2 rfl
  | not a => obtain ⟨t, _⟩ := seen_of h; exact form_of t.2 rfl
  | and a b => obtain ⟨t, _⟩ := seen_of h; exact form_of t.2 rfl
  | or a b => obtain ⟨t, _⟩ := seen_of h; exact form_of t.2 rfl
  | cmp op a b => obtain ⟨t, _⟩ := seen_of h; exact form_of t.2 rfl
  | cmp2 op1 op2 a b c => obtain ⟨t, _⟩ := seen_of h; exact form_of t.2 rfl
  | sub a i => obtain ⟨t, _⟩ := seen_of h; exact form_of t.2 rfl
  | slice a lo hi => obtain ⟨t, _⟩ := seen_of h; exact form_of t.2 rfl
  | tup es => obtain ⟨t, _⟩ := seen_of h; exact form_of t.2 rfl
  | list es => obtain ⟨t, _⟩ := seen_of h; exact form_of t.2 rfl
  | dict => obtain ⟨t, _⟩ := seen_of h; exact form_of t.2 rfl
  | attr a n => obtain ⟨t, _⟩ := seen_of h; exact form_of t.2 rfl
  | call f es => obtain ⟨t, _⟩ := seen_of h; exact form_of t.2 rfl
  | new f es => obtain ⟨t, _⟩ := seen_of h; exact form_of t.2 rfl
  | umeth a m es => obtain ⟨t, _⟩ := seen_of h; exact form_of t.2.1 rfl
  | bf f es => obtain ⟨t, _⟩ := seen_of h; exact form_of t.2 rfl
  | bm a m es => obtain ⟨t, _⟩ := seen_of h; exact form_of t.2.1 rfl
  | isinst a t => obtain ⟨t, _⟩ := seen_of h; exact form_of t.2 rfl
  | comp elt it cond => obtain ⟨t, _⟩ := seen_of h; exact form_of t.2 rfl
end
end Mine
-- part MMain
namespace Mine
open PySem
noncomputable def notStar : Expr → Bool
  | .Starred .. => false
  | _ => true
theorem starEach_plain {e : Expr} {es : List Expr} {env : Env} (h : notStar e = true) : starEach (e :: es) env = (false, eval e env) :: starEach es env := by
  cases e <;> first | rfl | cases h
theorem ck_notStar {N : Names} {sc : Scope} {ns : List (Option Str)} {m : ME} {e : Expr} (h : ck N sc ns m e = true) : notStar e = true := by
  have z := ck_head h
  cases e <;> first | rfl | cases z
theorem ckEs_plain {N : Names} {sc : Scope} {ns : List (Option Str)} {env : Env} : ∀ {ms : MEs} {xs : List Expr}, ckEs N sc ns ms xs = true → plainArgs env xs
  | .nil, [], _ => trivial
  | .nil, _ :: _, h => by cases (show false = true from h)
  | .cons _ _, [], h => by cases (show false = true from h)
  | .cons m ms, x :: xs, h => by
    have h := And.intro (an1 h) (an2 h)
    exact ⟨starEach_plain (ck_notStar h.1), ckEs_plain h.2⟩
theorem ckEs_nil {N : Names} {sc : Scope} {ns : List (Option Str)} {ms : MEs} (h : ckEs N sc ns ms [] = true) : ms = .nil := by
  cases ms with
  | nil => rfl
  | cons _ _ => cases (show false = true from h)
theorem evalEs_length {T : Tab} {Φ : Funs} {Γ : Env'} {N : Names} {sc : Scope} {ns : List (Option Str)} : ∀ {ms : MEs} {xs : List Expr} {H H' : Hp} {vs : List Val}, ckEs N sc ns ms xs = true → evalEs T Φ ms Γ H = .ok vs H' → vs.length = xs.length
  | .nil, [], H, H', vs, _, e => by cases (show Res.ok [] H = .ok vs H' from e); rfl
  | .nil, _ :: _, _, _, _, h, _ => by cases (show false = true from h)
  | .cons _ _, [], _, _, _, h, _ => by cases (show false = true from h)
  | .cons m ms, x :: xs, H, H', vs, h, e => by
    have h := And.intro (an1 h) (an2 h)
    rw [evs_cons] at e
    cases e1 : evalE T Φ m Γ H with
    | bad => rw [bnd_bad e1] at e; exact nomatch e
    | exc c H1 => rw [bnd_exc e1] at e; cases e
    | ok v H1 =>
      rw [bnd_ok e1] at e
      cases e2 : evalEs T Φ ms Γ H1 with
      | bad => rw [bnd_bad e2] at e; cases e
      | exc c H2 => rw [bnd_exc e2] at e; cases e
      | ok vs' H2 =>
        rw [bnd_ok e2] at e
        cases e
        rw [List.length_cons, List.length_cons, evalEs_length h.2 e2]
section
variable {cx : Cx} {N : Names} {A : Around} {P : Amb} {env : Env} {Φ : Funs} {Γ : Env'}
theorem sim_nil : Sim cx A P (spliced (([] : List Expr).map fun e => (false, eval e env))) (evalEs cx.T Φ .nil Γ) (Amb.vrs cx) := by
  intro H ρ s R p
  exact wpAny_pure ⟨ρ, Full.refl _ _, R, .nil⟩
theorem sim_cons {m : ME} {ms : MEs} {e : Expr} {es : List Expr} (x : Sim cx A P (eval e env) (evalE cx.T Φ m Γ) (Amb.vr cx)) (y : Sim cx A P (spliced (es.map fun e => (false, eval e env))) (evalEs cx.T Φ ms Γ) (Amb.vrs cx)) :
    Sim cx A P (spliced ((e :: es).map fun e => (false, eval e env))) (evalEs cx.T Φ (.cons m ms) Γ) (Amb.vrs cx) := by
  intro H ρ s R p
  refine SimAt.bindK (K' := fun Q E s => wpAny (model cx.prog cx.w) A (spliced ((e :: es).map fun e => (false, eval e env))) Q E s) (K := fun v Q E s => wpAny (model cx.prog cx.w) A (spliced (es.map fun e => (false, eval e env))) (fun vs s' => Q (v :: vs) s') E s) (x H ρ s R p) ?_ ?_ ?_
  · intro b v H1 ρ1 s1 _ F1 R1 vr
    refine SimAt.bindK (K' := fun Q E s => wpAny (model cx.prog cx.w) A (spliced (es.map fun e => (false, eval e env))) (fun vs s' => Q (v :: vs) s') E s) (K := fun vs Q E s => Q (v :: vs) s) (y H1 ρ1 s1 R1 (P.st _ _ _ _ p F1)) ?_ ?_ ?_
    · intro bs vs H2 ρ2 s2 _ F2 R2 vrs
      exact ⟨ρ2, Full.refl _ _, R2, .cons (vr.step F2.step) vrs⟩
    · exact fun vs Q E Q' E' s h k _ => k _ _ h
    · exact fun Q E h => h
  · exact fun v Q E Q' E' s h k1 k2 => wpAny_mono h (fun _ _ => k1 _ _) k2
  · exact fun Q E h => Calls.spliced_cons h
theorem sim_tup {ms : MEs} {es : List Expr} {k : Nat} {pos : Pos} (hp : plainArgs env es) (hz : es.length ≤ 1000) (hlen : ∀ H vs H', evalEs cx.T Φ ms Γ H = .ok vs H' → vs.length = es.length) (y : Sim cx A P (spliced (es.map fun e => (false, eval e env))) (evalEs cx.T Φ ms Γ) (Amb.vrs cx)) :
    Sim cx A P (eval (.Tuple es k pos) env) (evalE cx.T Φ (.tup ms) Γ) (Amb.vr cx) := by
  intro H ρ s R p
  refine SimAt.bindK (K' := fun Q E s => wpAny (model cx.prog cx.w) A (eval (.Tuple es k pos) env) Q E s) (K := fun vs Q E s₁ => vs.length ≤ sizeLine ∧ Q (.ref s₁.heap.objs.size) { s₁ with heap := s₁.heap.push (tupO vs 0) }) (y H ρ s R p) ?_ ?_ ?_
  · intro bs vs H1 ρ1 s1 e1 F1 R1 vrs
    have z : bs.length ≤ sizeLine := by rw [hlen _ _ _ e1, sizeLine_eq]; exact o19 hz
    have F := Full.push ρ1 s1.heap (tupO vs 0)
    exact ⟨by rw [← vrs.length]; exact z, ρ1, F, R1.push _ _, .tup (Heap.get?_push_size _ rfl) (R1.fresh_not (fresh_none _)) z (vrs.step F.step)⟩
  · exact fun vs Q E Q' E' s h k1 _ => ⟨h.1, k1 _ _ h.2⟩
  · exact fun Q E h => wpAny_Tuple (by rw [plainArgs_trees pos hp]; exact h)
theorem sim_list {ms : MEs} {es : List Expr} {pos : Pos} (hp : plainArgs env es) (hz : es.length ≤ 1000) (hlen : ∀ H vs H', evalEs cx.T Φ ms Γ H = .ok vs H' → vs.length = es.length) (y : Sim cx A P (spliced (es.map fun e => (false, eval e env))) (evalEs cx.T Φ ms Γ) (Amb.vrs cx)) :
    Sim cx A P (eval (.List es pos) env) (evalE cx.T Φ (.list ms) Γ) (Amb.vr cx) := by
  intro H ρ s R p
  refine SimAt.bindK (K' := fun Q E s => wpAny (model cx.prog cx.w) A (eval (.List es pos) env) Q E s) (K := fun vs Q E s₁ => vs.length ≤ sizeLine ∧ Q (.ref s₁.heap.objs.size) { s₁ with heap := s₁.heap.push (listO vs 0) }) (y H ρ s R p) ?_ ?_ ?_
  · intro bs vs H1 ρ1 s1 e1 F1 R1 vrs
    have z : bs.length ≤ sizeLine := by rw [hlen _ _ _ e1, sizeLine_eq]; exact o19 hz
    refine SimK.andK (by rw [← vrs.length]; exact z) ?_
    exact R1.newList s1.toks vrs z
  · exact fun vs Q E Q' E' s h k1 _ => ⟨h.1, k1 _ _ h.2⟩
  · exact fun Q E h => wpAny_List (by rw [plainArgs_trees pos hp]; exact h)
end
end Mine
-- part MStmt
namespace Mine
open PySem
structure FullS (env : Env) (ρ : Rho) (h : Heap) (ρ' : Rho) (h' : Heap) : Prop where
  grow : Grow ρ h ρ'
  keep : ∀ b o, h.get? b = some o → ¬ Owned ρ b → b ≠ env.locals → (∀ y, env.cells.lookup y ≠ some b) → ∃ o', h'.get? b = some o' ∧ SameUp o o'
  live : Live h h'
theorem Full.toS {env : Env} {ρ ρ' : Rho} {h h' : Heap} (x : Full ρ h ρ' h') : FullS env ρ h ρ' h' := ⟨x.grow, fun b o e n _ _ => x.keep b o e n, x.live⟩
theorem FullS.refl (env : Env) (ρ : Rho) (h : Heap) : FullS env ρ h ρ h := (Full.refl ρ h).toS
theorem FullS.trans {env : Env} {ρ ρ' ρ'' : Rho} {h h' h'' : Heap} (x : FullS env ρ h ρ' h') (y : FullS env ρ' h' ρ'' h'') : FullS env ρ h ρ'' h'' :=
  ⟨x.grow.trans y.grow x.live, fun b o e n n1 n2 => by
      refine ex1 (x.keep b o e n n1 n2) fun o' zz => aNd2 zz fun e' u => ?_
      refine ex1 (y.keep b o' e' (x.grow.not n e) n1 n2) fun o'' zz => aNd2 zz fun e'' u' => ?_
      exact ⟨o'', e'', u.trans u'⟩, x.live.trans y.live⟩
section
variable {cx : Cx} {N : Names} {A : Around} {env : Env} {sc : Scope} {ns : List (Option Str)}
theorem EnvSt.notLoc {ρ : Rho} {h : Heap} (x : EnvSt cx env sc ρ h) {b : Addr} {o : Obj} (e : h.get? b = some o) (n : ∀ es k, o.data ≠ .dict es k) : b ≠ env.locals := fun q => by
  refine ex1 x.loc fun m zz => ex3 zz fun ob es ep zz => aNd3 zz fun e' d _ => ?_
  rw [← q, e] at e'; cases e'
  exact n _ _ d
theorem EnvSt.notCell {ρ : Rho} {h : Heap} (x : EnvSt cx env sc ρ h) {b : Addr} {o : Obj} (e : h.get? b = some o) (n : ∀ v, o.data ≠ .cell v) (y : Str) : env.cells.lookup y ≠ some b := fun q => by
  obtain ⟨⟨v, ob, e', d⟩, _⟩ := x.cells y b q
  rw [e] at e'; cases e'
  exact n _ d
theorem FullS.step {ρ ρ' : Rho} {h h' : Heap} (x : EnvSt cx env sc ρ h) (F : FullS env ρ h ρ' h') : Step ρ h ρ' h' := by
  refine ⟨let ⟨e, h1, _⟩ := F.grow; ⟨e, h1⟩, fun b o e f n => ⟨?_, F.grow.not n e⟩, fun b o C e c n => ?_⟩
  · obtain ⟨o', e', u⟩ := F.keep b o e n (x.notLoc e f.notDict) (x.notCell e fun v q => by rcases f with ⟨_, _, _, f⟩ | ⟨_, _, f⟩ <;> rw [q] at f <;> cases f)
    rw [e', u.exact f.notDict]
  · obtain ⟨o', e', u⟩ := F.keep b o e n (x.notLoc e c.notDict) (x.notCell e fun v q => by obtain ⟨_, ⟨_, f⟩, _⟩ := c; rw [q] at f; cases f)
    rw [u.exact c.notDict] at e'
    exact ⟨o, e', c, F.grow.not n e⟩
noncomputable def SimSAt (cx : Cx) (A : Around) (env : Env) (sc : Scope) (ns : List (Option Str)) (r : ResS) (t : Sem Flow) (ρ : Rho) (s : Shared) : Prop :=
  match r with
  | .bad => True
  | .next Γ' H' => wpAny (model cx.prog cx.w) A t (fun f s' => f = .next ∧ ∃ ρ', FullS env ρ s.heap ρ' s'.heap ∧ Rel cx H' ρ' s' ∧ EnvOk cx env sc ns Γ' ρ' s'.heap) (fun _ _ => False) s
  | .ret v H' => wpAny (model cx.prog cx.w) A t (fun f s' => ∃ v' ρ', f = .ret v' ∧ FullS env ρ s.heap ρ' s'.heap ∧ Rel cx H' ρ' s' ∧ (VR cx ρ' s'.heap v v' ∧ EnvSt cx env sc ρ' s'.heap)) (fun _ _ => False) s
  | .exc c Γ' H' => wpAny (model cx.prog cx.w) A t (fun _ _ => False) (fun e s' => ∃ ρ', FullS env ρ s.heap ρ' s'.heap ∧ Rel cx H' ρ' s' ∧ EnvOk cx env sc ns Γ' ρ' s'.heap ∧ Flying cx ρ' s.heap s'.heap c e) s
noncomputable def SimS (cx : Cx) (A : Around) (l : List Env) (env : Env) (sc : Scope) (ns : List (Option Str)) (t : Sem Flow) (m : Env' → Hp → ResS) : Prop :=
  ∀ (Γ : Env') (H : Hp) (ρ : Rho) (s : Shared), Rel cx H ρ s → EnvOk cx env sc ns Γ ρ s.heap → FramesOk cx l ρ s.heap → SimSAt cx A env sc ns (m Γ H) t ρ s
theorem SimSAt.bind {α β : Type} {t : Sem α} {m : M β} {V : β → α → Amb} {Γ : Env'} {H : Hp} {ρ : Rho} {s : Shared} {t' : Sem Flow} {g : β → Hp → ResS} {K : α → Sem Flow} (e0 : EnvOk cx env sc ns Γ ρ s.heap) (x : SimAt cx A (m H) t V ρ s)
    (y : ∀ b a H' ρ' s', m H = .ok b H' → Full ρ s.heap ρ' s'.heap → Rel cx H' ρ' s' → EnvOk cx env sc ns Γ ρ' s'.heap → (V b a).P ρ' s'.heap → SimSAt cx A env sc ns (g b H') (K a) ρ' s')
    (k : ∀ Q E, wpAny (model cx.prog cx.w) A t (fun a s' => wpAny (model cx.prog cx.w) A (K a) Q E s') E s → wpAny (model cx.prog cx.w) A t' Q E s) :
    SimSAt cx A env sc ns (bndS m Γ g H) t' ρ s := by
  unfold bndS
  cases e : m H with
  | bad => trivial
  | exc c H' =>
    rw [e] at x
    refine k _ _ (wpAny_mono x (fun _ _ q => q.elim) fun ex s' ⟨ρ', F, R, fl⟩ => ⟨ρ', F.toS, R, e0.full F, fl⟩)
  | ok b H' =>
    rw [e] at x
    show SimSAt cx A env sc ns (g b H') t' ρ s
    cases e2 : g b H' with
    | bad => trivial
    | next Γ2 H2 =>
      refine k _ _ (wpAny_mono x (fun a s' ⟨ρ', F, R, v⟩ => ?_) fun _ _ q => q.elim)
      have z := y b a H' ρ' s' e F R (e0.full F) v
      rw [e2] at z
      exact wpAny_mono z (fun f s'' ⟨h1, ρ'', F', R', e'⟩ => ⟨h1, ρ'', F.toS.trans F', R', e'⟩) fun _ _ q => q.elim
    | ret v2 H2 =>
      refine k _ _ (wpAny_mono x (fun a s' ⟨ρ', F, R, v⟩ => ?_) fun _ _ q => q.elim)
      have z := y b a H' ρ' s' e F R (e0.full F) v
      rw [e2] at z
      exact wpAny_mono z (fun f s'' ⟨v', ρ'', h1, F', R', e'⟩ => ⟨v', ρ'', h1, F.toS.trans F', R', e'⟩) fun _ _ q => q.elim
    | exc c2 Γ2 H2 =>
      refine k _ _ (wpAny_mono x (fun a s' ⟨ρ', F, R, v⟩ => ?_) fun _ _ q => q.elim)
      have z := y b a H' ρ' s' e F R (e0.full F) v
      rw [e2] at z
      exact wpAny_mono z (fun _ _ q => q) fun ex s'' ⟨ρ'', F', R', e', fl⟩ => ⟨ρ'', F.toS.trans F', R', e', fl.older F.live⟩
set_option tactic.hygienic true in
theorem store_var {Γ : Env'} {H : Hp} {ρ : Rho} {s : Shared} {i : Nat} {y : Str} {mv : Val} {v : Value} {Q : Unit → Shared → Prop} {E : Value → Shared → Prop} (hlen : Γ.length = ns.length) (hnd : ∀ (i j : Nat) (y : Str), ns[i]? = some (some y) → ns[j]? = some (some y) → i = j)
    (R : Rel cx H ρ s) (e0 : EnvOk cx env sc ns Γ ρ s.heap) (ho : isOwn sc ns i y = true) (hv : VR cx ρ s.heap mv v)
    (k : ∀ h' tk, FullS env ρ s.heap ρ h' → Rel cx H ρ { s with heap := h', toks := tk } → EnvOk cx env sc ns (Γ.set i (some mv)) ρ h' →
      (∃ q o, ((sc.names.lookup y = some .local ∧ q = env.locals) ∨ (sc.names.lookup y = some .cell ∧ env.cells.lookup y = some q)) ∧ Heap.SameBut q s.heap h' ∧ h'.get? q = some o) → Q () { s with heap := h', toks := tk }) :
    wpAny (model cx.prog cx.w) A (storeName env y v) Q E s := by
  have hown : (sc.names.lookup y = some .local ∨ sc.names.lookup y = some .cell) ∧ ns[i]? = some (some y) := by
    unfold isOwn at ho
    rw [Bool.and_eq_true] at ho
    refine ⟨?_, ?_⟩
    · have := ho.1; split at this <;> simp_all
    · have := ho.2
      split at this
      · rename_i z ez; rw [ez, of_decide_eq_true this]
      · cases this
  obtain ⟨hk, hi⟩ := hown
  have hiΓ : i < Γ.length := by rw [hlen]; exact (List.getElem?_eq_some_iff.mp hi).1
  have set_i : (Γ.set i (some mv))[i]? = some (some mv) := by rw [List.getElem?_set_self hiΓ]
  have set_j : ∀ j, j ≠ i → (Γ.set i (some mv))[j]? = Γ[j]? := fun j hj => List.getElem?_set_ne (fun q => hj q.symm)
  rcases hk with hk | hk
  · have kd : env.kindOf y = some .local := e0.st.kinds y _ hk
    obtain ⟨m, hm⟩ := e0.st.loc
    refine wpAny_storeName_local kd hm (fun h' hn hs => ?_) (by rw [e0.st.fn]; rfl)
    refine ex3 (id hm) fun o es ep zz => aNd3 zz fun eo d _ => ?_
    refine ex3 (id hn) fun o' es' ep' zz => aNd3 zz fun eo' d' _ => ?_
    have n1 : ¬ Fixed o := fun f => f.notDict _ _ d
    have n2 : ∀ C, ¬ IsExcO o C := fun C f => f.notDict _ _ d
    have St : Step ρ s.heap ρ h' := Step.but eo' eo hs n1 n2
    have notc : ∀ z c, env.cells.lookup z = some c → c ≠ env.locals := fun z c hc q => by
      obtain ⟨⟨v, ob, e', dc⟩, _⟩ := e0.st.cells z c hc
      rw [q, eo] at e'; cases e'
      rw [d] at dc; cases dc
    refine (fun a b c => k h' (s.toks + 1) a b c ⟨env.locals, o', .inl ⟨hk, rfl⟩, hs, eo'⟩) ⟨Grow.refl _ _, fun b ob eb _ nb _ => ⟨ob, by rw [hs.2 b nb]; exact eb, .refl ob⟩, SameBut.live hs eo'⟩ (R.but eo' eo hs n1 n2 e0.st.locN e0.st.locB) ⟨?_, by rw [List.length_set]; exact hlen, ?_⟩
    · refine ⟨e0.st.fn, e0.st.glob, e0.st.blt, e0.st.kinds, ⟨_, hn⟩, e0.st.locN, e0.st.locB, fun z c hc => ?_, e0.st.hasCell, e0.st.apart⟩
      refine aNd3 (e0.st.cells z c hc) fun zn0 c1 c2 => ?_; obtain ⟨u, hu⟩ := zn0
      exact ⟨⟨u, IsCell_keep hu fun ob eb => ⟨ob, by rw [hs.2 c (notc z c hc)]; exact eb, rfl⟩⟩, c1, c2⟩
    · intro j z mz hj hz
      by_cases q : j = i
      · subst q
        rw [set_i] at hz; cases hz
        rw [hi] at hj; cases hj
        exact ⟨v, .inl ⟨kd, _, hn, by simp⟩, hv.step St⟩
      · rw [set_j j q] at hz
        refine ex1 (e0.vals j z mz hj hz) fun u zz => aNd2 zz fun hu ru => ?_
        have zy : z ≠ y := fun e => q (hnd j i y (e ▸ hj) hi)
        refine ⟨u, ?_, ru.step St⟩
        rcases hu with ⟨kz, m', hm', ez⟩ | ⟨kz, c, hc, ez⟩
        · refine .inl ⟨kz, _, hn, ?_⟩
          refine hideG fun G kG => ?_
          refine ex3 hm' fun o2 es2 ep2 zz => aNd4 zz fun eo2 d2 _ f2 => ?_
          refine ex3 hm fun o3 es3 ep3 zz => aNd4 zz fun eo3 d3 _ f3 => ?_
          refine kG ?_
          rw [eo2] at eo3; cases eo3
          rw [d2] at d3; cases d3
          simp only [if_neg zy]
          rw [← f3 z, f2 z]; exact ez
        · exact .inr ⟨kz, c, hc, IsCell_keep ez fun ob eb => ⟨ob, by rw [hs.2 c (notc z c hc)]; exact eb, rfl⟩⟩
  · have kd : env.kindOf y = some .cell := e0.st.kinds y _ hk
    refine hideG fun G kG => ?_
    obtain ⟨c, hc⟩ := e0.st.hasCell y (.inl hk)
    refine aNd3 (e0.st.cells y c hc) fun zn0 cn cb => ?_; obtain ⟨u0, hu0⟩ := zn0
    refine kG ?_
    refine wpAny_storeName_cell e0.st.fn kd hc hu0 fun h' hn hs => ?_
    refine hideG fun G kG => ?_
    refine ex1 (id hu0) fun o zz => aNd2 zz fun eo d => ?_
    refine ex1 (id hn) fun o' zz => aNd2 zz fun eo' d' => ?_
    refine kG ?_
    have n1 : ¬ Fixed o := fun f => by rcases f with ⟨_, _, _, f⟩ | ⟨_, _, f⟩ <;> rw [d] at f <;> cases f
    have n2 : ∀ C, ¬ IsExcO o C := fun C f => by refine aNd3 f fun _ zn1 _ => ?_; obtain ⟨_, f⟩ := zn1; rw [d] at f; cases f
    have St : Step ρ s.heap ρ h' := Step.but eo' eo hs n1 n2
    have notl : env.locals ≠ c := fun q => by
      refine ex1 e0.st.loc fun m zz => ex3 zz fun ob es ep zz => aNd3 zz fun e' dl _ => ?_
      rw [q, eo] at e'; cases e'
      rw [d] at dl; cases dl
    have locK : ∀ ob, s.heap.get? env.locals = some ob → ∃ o', h'.get? env.locals = some o' ∧ o'.data = ob.data := fun ob eb => ⟨ob, by rw [hs.2 _ notl]; exact eb, rfl⟩
    refine (fun a b c' => k h' s.toks a b c' ⟨c, o', .inr ⟨hk, hc⟩, hs, eo'⟩) ⟨Grow.refl _ _, fun b ob eb _ _ nb => ⟨ob, by rw [hs.2 b (fun q => nb y (q ▸ hc))]; exact eb, .refl ob⟩, SameBut.live hs eo'⟩ (R.but eo' eo hs n1 n2 cn cb) ⟨?_, by rw [List.length_set]; exact hlen, ?_⟩
    · obtain ⟨m, hm⟩ := e0.st.loc
      refine ⟨e0.st.fn, e0.st.glob, e0.st.blt, e0.st.kinds, ⟨m, Heap_Ns_keep hm locK⟩, e0.st.locN, e0.st.locB, fun z c' hc' => ?_, e0.st.hasCell, e0.st.apart⟩
      refine aNd3 (e0.st.cells z c' hc') fun zn0 c1 c2 => ?_; obtain ⟨u, hu⟩ := zn0
      by_cases q : c' = c
      · subst q; exact ⟨⟨_, hn⟩, c1, c2⟩
      · exact ⟨⟨u, IsCell_keep hu fun ob eb => ⟨ob, by rw [hs.2 c' q]; exact eb, rfl⟩⟩, c1, c2⟩
    · intro j z mz hj hz
      by_cases q : j = i
      · subst q
        rw [set_i] at hz; cases hz
        rw [hi] at hj; cases hj
        exact ⟨v, .inr ⟨.inl kd, c, hc, hn⟩, hv.step St⟩
      · rw [set_j j q] at hz
        refine ex1 (e0.vals j z mz hj hz) fun u zz => aNd2 zz fun hu ru => ?_
        have zy : z ≠ y := fun e => q (hnd j i y (e ▸ hj) hi)
        refine ⟨u, ?_, ru.step St⟩
        rcases hu with ⟨kz, m', hm', ez⟩ | ⟨kz, c', hc', ez⟩
        · exact .inl ⟨kz, m', Heap_Ns_keep hm' locK, ez⟩
        · have cc : c' ≠ c := fun e => zy (e0.st.apart z y c' hc' (e ▸ hc))
          exact .inr ⟨kz, c', hc', IsCell_keep ez fun ob eb => ⟨ob, by rw [hs.2 c' cc]; exact eb, rfl⟩⟩
end
end Mine
-- part MNote
namespace Mine
open PySem
structure Off (cx : Cx) (ρ : Rho) (h g g' : Heap) : Prop where
  old : ∀ b o o0, g.get? b = some o → h.get? b = some o0 → ∃ o', g'.get? b = some o' ∧ SameUp o o'
  own : ∀ b o, g.get? b = some o → Owned ρ b → g'.get? b = some o
  base : ∀ b o o0, g.get? b = some o → cx.h₀.get? b = some o0 → g'.get? b = some o
  fix : ∀ b o, g.get? b = some o → Fixed o → g'.get? b = some o
  exc : ∀ b o C, g.get? b = some o → IsExcO o C → ∃ o', g'.get? b = some o' ∧ IsExcO o' C
  cell : ∀ b o v, g.get? b = some o → o.data = .cell v → g'.get? b = some o
  dict : ∀ b o es n, g.get? b = some o → o.data = .dict es n → ∃ o', g'.get? b = some o' ∧ SameUp o o'
  live : Live g g'
section
variable {cx : Cx} {ρ ρ₀ : Rho} {h g g' g'' : Heap} {H : Hp} {s : Shared} {env : Env} {sc : Scope} {ns : List (Option Str)} {Γ : Env'} {l : List Env}
theorem Off.refl : Off cx ρ h g g := ⟨fun _ o _ e _ => ⟨o, e, .refl o⟩, fun _ _ e _ => e, fun _ _ _ e _ => e, fun _ _ e _ => e, fun _ o _ e x => ⟨o, e, x⟩, fun _ _ _ e _ => e, fun _ o _ _ e _ => ⟨o, e, .refl o⟩, .refl g⟩
theorem Off.trans (x : Off cx ρ h g g') (y : Off cx ρ h g' g'') : Off cx ρ h g g'' := by
  refine ⟨fun b o o0 e e0 => ?_, fun b o e w => y.own b o (x.own b o e w) w, fun b o o0 e e0 => y.base b o o0 (x.base b o o0 e e0) e0, fun b o e f => y.fix b o (x.fix b o e f) f, fun b o C e f => ?_, fun b o v e d => y.cell b o v (x.cell b o v e d) d, fun b o es n e d => ?_, x.live.trans y.live⟩
  · refine ex1 (x.old b o o0 e e0) fun o1 zz => aNd2 zz fun e1 u1 => ?_
    refine ex1 (y.old b o1 o0 e1 e0) fun o2 zz => aNd2 zz fun e2 u2 => ?_
    exact ⟨o2, e2, u1.trans u2⟩
  · refine ex1 (x.exc b o C e f) fun o1 zz => aNd2 zz fun e1 f1 => ?_
    exact y.exc b o1 C e1 f1
  · refine ex1 (x.dict b o es n e d) fun o1 zz => aNd2 zz fun e1 u1 => ?_
    refine ex1 (y.dict b o1 es n e1 (u1.data.trans d)) fun o2 zz => aNd2 zz fun e2 u2 => ?_
    exact ⟨o2, e2, u1.trans u2⟩
theorem Off.step (x : Off cx ρ h g g') : Step ρ g ρ g' := ⟨⟨[], by simp⟩, fun b o e f n => ⟨x.fix b o e f, n⟩, fun b o C e c n => by refine ex1 (x.exc b o C e c) fun o' zz => aNd2 zz fun e' c' => ?_; exact ⟨o', e', c', n⟩⟩
theorem Off.rel {h' : Heap} (x : Off cx ρ h s.heap h') (R : Rel cx H ρ s) : Rel cx H ρ { s with heap := h' } :=
  R.same (tk := s.toks) x.step (fun b o w e => x.own b o e w) fun b o e => x.base b o o (R.base b o e) e
theorem Off.full (x : Off cx ρ h g g') (F : Full ρ₀ h ρ g) : Full ρ₀ h ρ g' := ⟨F.grow, fun b o e n => by
    refine hideG fun G kG => ?_
    refine ex1 (F.keep b o e n) fun o1 zz => aNd2 zz fun e1 u1 => ?_
    refine ex1 (x.old b o1 o e1 e) fun o2 zz => aNd2 zz fun e2 u2 => ?_
    refine kG ?_
    exact ⟨o2, e2, u1.trans u2⟩, F.live.trans x.live⟩
theorem Off.fullS (x : Off cx ρ h g g') (F : FullS env ρ₀ h ρ g) : FullS env ρ₀ h ρ g' := ⟨F.grow, fun b o e n n1 n2 => by
    refine ex1 (F.keep b o e n n1 n2) fun o1 zz => aNd2 zz fun e1 u1 => ?_
    refine ex1 (x.old b o1 o e1 e) fun o2 zz => aNd2 zz fun e2 u2 => ?_
    exact ⟨o2, e2, u1.trans u2⟩, F.live.trans x.live⟩
theorem Off.nsK (x : Off cx ρ h g g') {a : Addr} {m : Str → Option Value} (n : g.Ns a m) : g'.Ns a m := by
  refine ex3 n fun o es ep zz => aNd3 zz fun e d r => ?_
  refine ex1 (x.dict a o _ _ e d) fun o' zz => aNd2 zz fun e' u => ?_
  exact ⟨o', es, ep, e', u.data.trans d, r⟩
theorem Off.isCell (x : Off cx ρ h g g') {a : Addr} {v : Option Value} (n : g.IsCell a v) : g'.IsCell a v := by
  refine ex1 n fun o zz => aNd2 zz fun e d => ?_
  exact ⟨o, x.cell a o _ e d, d⟩
theorem Off.envK (x : Off cx ρ h g g') (w : EnvOk cx env sc ns Γ ρ g) : EnvOk cx env sc ns Γ ρ g' := by
  obtain ⟨m, hm⟩ := w.st.loc
  refine ⟨⟨w.st.fn, w.st.glob, w.st.blt, w.st.kinds, ⟨m, x.nsK hm⟩, w.st.locN, w.st.locB, fun y c hc => ?_, w.st.hasCell, w.st.apart⟩, w.len, fun i y mv hi hm => ?_⟩
  · refine aNd3 (w.st.cells y c hc) fun zn0 n b => ?_; obtain ⟨v, hv⟩ := zn0
    exact ⟨⟨v, x.isCell hv⟩, n, b⟩
  · refine ex1 (w.vals i y mv hi hm) fun v zz => aNd2 zz fun hv r => ?_
    refine ⟨v, ?_, r.step x.step⟩
    rcases hv with ⟨k, m, hm, e⟩ | ⟨k, c, hc, e⟩
    · exact .inl ⟨k, m, x.nsK hm, e⟩
    · exact .inr ⟨k, c, hc, x.isCell e⟩
theorem Off.frames (x : Off cx ρ h g g') (w : FramesOk cx l ρ g) : FramesOk cx l ρ g' := fun env he => by
  refine hideG fun G kG => ?_
  refine aNd2 (w env he) fun k zz => ex2 zz fun L o zz => aNd5 zz fun h1 h2 h3 zn6 h6 => ?_; obtain ⟨es, n, h5⟩ := zn6
  refine ex1 (x.dict L o es n h3 h5) fun o' zz => aNd2 zz fun e' u => ?_
  refine kG ?_
  exact ⟨k, L, o', h1, h2, e', ⟨es, n, u.data.trans h5⟩, h6⟩
theorem Off.push (o : Obj) : Off cx ρ h g (g.push o) := by
  have k : ∀ b o', g.get? b = some o' → (g.push o).get? b = some o' := fun b o' e => Heap.get?_push_of_some o e
  exact ⟨fun b o _ e _ => ⟨o, k b o e, .refl o⟩, fun b o e _ => k b o e, fun b o _ e _ => k b o e, fun b o e _ => k b o e, fun b o _ e x => ⟨o, k b o e, x⟩, fun b o _ e _ => k b o e, fun b o _ _ e _ => ⟨o, k b o e, .refl o⟩, fun b o e => ⟨o, k b o e⟩⟩
theorem Off.upd {a : Addr} {o : Obj} {vs : Array Value} {f : Array Value → Array Value} (e : g.get? a = some o) (d : o.data = .fields vs) (hn : h.get? a = none) (hb : cx.h₀.get? a = none) (no : ¬ Owned ρ a) (nf : ¬ Fixed o) : Off cx ρ h g (g.update a (Obj.mapFields f)) := by
  have self := Heap.get?_update_self (h := g) (Obj.mapFields f) e (Obj.isFreed_of_fields (Obj.data_mapFields d f))
  have k : ∀ b o', b ≠ a → g.get? b = some o' → (g.update a (Obj.mapFields f)).get? b = some o' := fun b o' n e' => (Heap.get?_update_other _ _ (Ne.symm n)).trans e'
  have is : ∀ b o', g.get? b = some o' → b = a → o' = o := fun b o' e' q => by rw [q, e] at e'; cases e'; rfl
  refine ⟨fun b ob o0 eb e0 => ⟨ob, k b ob (fun q => by rw [q, hn] at e0; cases e0) eb, .refl ob⟩, fun b ob eb w => k b ob (fun q => no (q ▸ w)) eb, fun b ob o0 eb e0 => k b ob (fun q => by rw [q, hb] at e0; cases e0) eb,
    fun b ob eb fx => k b ob (fun q => nf (is b ob eb q ▸ fx)) eb, fun b ob C eb x => ?_, fun b ob v eb db => k b ob (fun q => by rw [is b ob eb q, d] at db; cases db) eb, fun b ob es n eb db => ⟨ob, k b ob (fun q => by rw [is b ob eb q, d] at db; cases db) eb, .refl ob⟩, fun b ob eb => ?_⟩
  · by_cases q : b = a
    · subst q
      rw [e] at eb; cases eb
      exact ⟨_, self, (Obj.cls_mapFields _ _).trans x.1, ⟨_, Obj.data_mapFields d f⟩, by obtain ⟨c, dd, dt, sl⟩ := o; cases d; exact x.2.2⟩
    · exact ⟨ob, k b ob q eb, x⟩
  · by_cases q : b = a
    · refine Eq.symm q ▸ ?_; exact ⟨_, self⟩
    · exact ⟨ob, k b ob q eb⟩
theorem Off.slots {S : List Addr} (x : Heap.SlotsOnly S g g') (fr : ∀ b ∈ S, cx.h₀.get? b = none ∧ ¬ Owned ρ b ∧ ∀ o, g.get? b = some o → ∃ es n, o.data = .dict es n) : Off cx ρ h g g' := by
  have k : ∀ b o, b ∉ S → g.get? b = some o → g'.get? b = some o := fun b o n e => (x.2.1 b n).trans e
  have up : ∀ b o, g.get? b = some o → ∃ o', g'.get? b = some o' ∧ SameUp o o' := fun b o e => by
    by_cases m : b ∈ S
    · obtain ⟨sl, e'⟩ := x.2.2 b o e
      exact ⟨_, e', .inr ⟨(fr b m).2.2 o e, rfl⟩⟩
    · exact ⟨o, k b o m e, .refl o⟩
  refine ⟨fun b o _ e _ => up b o e, fun b o e w => k b o (fun m => (fr b m).2.1 w) e, fun b o o0 e e0 => k b o (fun m => by rw [(fr b m).1] at e0; cases e0) e, fun b o e f => k b o (fun m => ?_) e, fun b o C e f => ⟨o, k b o (fun m => ?_) e, f⟩, fun b o v e d => k b o (fun m => ?_) e, fun b o es n e _ => up b o e, fun b o e => ?_⟩
  · refine ex2 ((fr b m).2.2 o e) fun es n d => ?_
    exact f.notDict es n d
  · refine ex2 ((fr b m).2.2 o e) fun es n d => ?_
    exact f.notDict es n d
  · refine ex2 ((fr b m).2.2 o e) fun es n d' => ?_
    rw [d] at d'; cases d'
  · refine ex1 (up b o e) fun o' zz => aNd2 zz fun e' _ => ?_
    exact ⟨o', e'⟩
structure Flown (cx : Cx) (ρ : Rho) (h h' : Heap) (c : Nat) (e : Value) : Prop where
  is : ∃ (a C : Addr) (vs : Array Value) (tb : Addr) (tvs : Array Value), e = .ref a ∧ cx.cls[c]? = some (.ref C) ∧ h.get? a = none ∧ h'.get? a = some { cls := .ref C, dict := none, data := .fields vs, slots := #[] } ∧ vs.size = 6 ∧ ¬ Owned ρ a ∧
    vs[1]? = some (.ref tb) ∧ h.get? tb = none ∧ h'.get? tb = some { cls := .type "traceback", dict := none, data := .fields tvs, slots := #[] } ∧ tvs.size = 11 ∧ ¬ Owned ρ tb
theorem Flown.to {c : Nat} {e : Value} (x : Flown cx ρ h g c e) : Flying cx ρ h g c e := by
  refine ex5 x.is fun a C vs tb tvs zz => aNd7 zz fun h1 h2 h3 h4 h5 h6 h7 => ?_
  exact ⟨a, C, vs, h1, h2, h3, h4, h5, h6, .inr ⟨tb, tvs, h7⟩⟩
theorem Flown.vr {c : Nat} {e : Value} (x : Flown cx ρ h g c e) : VR cx ρ g (.exc c) e := by
  refine ex5 x.is fun a C vs tb tvs zz => aNd7 zz fun hr0 h2 h3 h4 h5 h6 _ => ?_; refine Eq.symm hr0 ▸ ?_
  exact .exc h4 h6 h2 ⟨rfl, ⟨_, rfl⟩, rfl⟩
theorem rec_not_fixed {C : Addr} {vs : Array Value} : ¬ Fixed { cls := .ref C, dict := none, data := .fields vs, slots := #[] } := by
  rintro (⟨q, _⟩ | ⟨q, _⟩) <;> cases q
theorem tb_not_fixed {vs : Array Value} : ¬ Fixed { cls := .type "traceback", dict := none, data := .fields vs, slots := #[] } := by
  rintro (⟨q, _⟩ | ⟨q, _⟩)
  · exact absurd (show Value.type "traceback" = Value.type "tuple" from q) (by decide)
  · exact absurd (show Value.type "traceback" = Value.type "range" from q) (by decide)
theorem frames_fun (w : FramesOk cx l ρ g) : g.FunFrames cx.h₀ l := by
  induction l with
  | nil => trivial
  | cons env l ih =>
    refine hideG fun G kG => ?_
    refine aNd2 (w env (.head _)) fun k zz => ex2 zz fun L o zz => aNd5 zz fun h1 h2 h3 zn6 _ => ?_; obtain ⟨es, n, h5⟩ := zn6
    refine kG ?_
    exact ⟨k, ⟨L, o, h1, h2, h3, fun vs q => by rw [h5] at q; cases q⟩, ih fun e he => w e (.tail _ he)⟩
theorem frames_mem (w : FramesOk cx l ρ g) : ∀ b ∈ l.filterMap (·.frame), cx.h₀.get? b = none ∧ ¬ Owned ρ b ∧ ∀ o, g.get? b = some o → ∃ es n, o.data = .dict es n := fun b hb => by
  refine hideG fun G kG => ?_
  refine ex1 (List.mem_filterMap.mp hb) fun env zz => aNd2 zz fun he hf => ?_
  refine aNd2 (w env he) fun k zz => ex2 zz fun L o zz => aNd5 zz fun h1 h2 h3 h5 h6 => ?_
  refine kG ?_
  rw [h1] at hf; cases hf
  exact ⟨h2, h6, fun o' e' => by rw [h3] at e'; cases e'; exact h5⟩
end
section
variable {cx : Cx} {ρ : Rho} {h : Heap} {A : Around} {env : Env} {outer : List Env} {L : Addr} {s : Shared} {Q : Unit → Shared → Prop} {E : Value → Shared → Prop} {c : Nat} {e : Value} {H : Hp}
theorem wp_entry {a C : Addr} {vs : Array Value} {head : Value} {hn : Bool} (hfr : A.frames = some (env :: outer)) (hf : env.frame = some L) (w : FramesOk cx (env :: outer) ρ s.heap) (R : Rel cx H ρ s) (lb : Live cx.h₀ h) (lh : Live h s.heap) (hC : cx.cls[c]? = some (.ref C)) (ha : h.get? a = none) (ga : s.heap.get? a = some { cls := .ref C, dict := none, data := .fields vs, slots := #[] }) (hz : vs.size = 6) (no : ¬ Owned ρ a)
    (k : ∀ h', Off cx ρ h s.heap h' → Flown cx ρ h h' c (.ref a) → Q () { s with heap := h' }) :
    wpAny (model cx.prog cx.w) A (do let x ← frameOf env; let pl ← entryPlaceOf L hn; let b ← EntryCells.newEntry head x .none (rawInt L) .none pl; setField (.ref a) 1 b) Q E s := by
  refine wpAny_bind (wpAny_frameOf_fun hfr (frames_fun w) hf fun h₁ hs => ?_)
  have o1 : Off cx ρ h s.heap h₁ := Off.slots hs (frames_mem w)
  refine wpAny_bind (wpAny_entryPlaceOf fun pl hpl => ?_)
  unfold EntryCells.newEntry newFields
  refine wpAny_bind (wpAny_newObj_type ?_ (hpl.sizeOk5 _ _ _ _ _))
  have na : a ∉ (env :: outer).filterMap (·.frame) := fun m => by
    refine ex2 ((frames_mem w a m).2.2 _ ga) fun es n d => ?_
    cases d
  have ga1 : h₁.get? a = some { cls := .ref C, dict := none, data := .fields vs, slots := #[] } := (hs.2.1 a na).trans ga
  generalize ht : ({ cls := .type "traceback", dict := none, data := .fields ([head, .ref L, .none, rawInt L, .none] ++ (if pl.isEmpty then List.replicate 6 Value.none else pl)).toArray } : Obj) = t
  have sz : ([head, .ref L, .none, rawInt L, .none] ++ (if pl.isEmpty then List.replicate 6 Value.none else pl)).toArray.size = 11 := by
    rcases hpl with rfl | ⟨_, _, _, _, _, _, _, rfl⟩ <;> rfl
  have ga2 : (h₁.push t).get? a = some { cls := .ref C, dict := none, data := .fields vs, slots := #[] } := Heap.get?_push_of_some t ga1
  refine wpAny_setField ga2 rfl (by exact o20 hz) ?_
  have ne : h₁.objs.size ≠ a := Nat.ne_of_gt (Heap.lt_size ga1)
  have gt : (h₁.push t).get? h₁.objs.size = some t := Heap.get?_push_size h₁ (by rw [← ht]; rfl)
  have R1 : Rel cx H ρ { s with heap := h₁ } := o1.rel R
  have hb : cx.h₀.get? a = none := lb.none ha
  have o2 : Off cx ρ h s.heap ((h₁.push t).update a (Obj.mapFields (·.setIfInBounds 1 (Value.ref h₁.objs.size)))) := (o1.trans (Off.push t)).trans (Off.upd ga2 rfl ha hb no rec_not_fixed)
  refine k _ o2 ⟨a, C, vs.setIfInBounds 1 (.ref h₁.objs.size), h₁.objs.size, _, rfl, hC, ha, Heap.get?_update_self _ ga2 rfl, by rw [Array.size_setIfInBounds]; exact hz, no, ?_, ?_, ((Heap.get?_update_other _ _ (Ne.symm ne)).trans gt).trans (congrArg some ht.symm), sz, R1.fresh_not (fresh_none h₁)⟩
  · rw [Array.getElem?_setIfInBounds_self_of_lt (by exact o20 hz)]
  · refine lh.none ?_
    rw [hs.1]; exact fresh_none s.heap
theorem wp_note (hfr : A.frames = some (env :: outer)) (hf : env.frame = some L) (w : FramesOk cx (env :: outer) ρ s.heap) (R : Rel cx H ρ s) (lb : Live cx.h₀ h) (lh : Live h s.heap) (fl : Flying cx ρ h s.heap c e)
    (k : ∀ h', Off cx ρ h s.heap h' → Flown cx ρ h h' c e → Q () { s with heap := h' }) : wpAny (model cx.prog cx.w) A (noteFrame e env) Q E s := by
  refine hideG fun G kG => ?_
  refine ex3 fl.is fun a C vs zz => aNd7 zz fun zr3 hC ha ga hz no h7 => ?_; subst zr3
  refine kG ?_
  unfold noteFrame
  simp only [hf]
  rcases h7 with h1 | ⟨tb, tvs, h1, htb, gtb, hzt, not⟩
  · refine wpAny_bind (wpAny_field ga rfl h1 ?_)
    exact wp_entry hfr hf w R lb lh hC ha ga hz no k
  · refine wpAny_bind (wpAny_field ga rfl h1 ?_)
    obtain ⟨x3, h3⟩ : ∃ x, tvs[3]? = some x := ⟨_, Array.getElem?_eq_getElem (by exact o21 hzt)⟩
    refine wpAny_bind (wpAny_field gtb rfl h3 ?_)
    by_cases q : (x3 == rawInt L) = true
    · rw [if_pos q]
      exact wpAny_pure (k _ Off.refl ⟨a, C, vs, tb, tvs, rfl, hC, ha, ga, hz, no, h1, htb, gtb, hzt, not⟩)
    · rw [if_neg q]
      refine wpAny_bind (wpAny_setField gtb rfl (by exact o21 hzt) ?_)
      have o1 : Off cx ρ h s.heap (s.heap.update tb (Obj.mapFields (·.setIfInBounds 3 Value.none))) := Off.upd gtb rfl htb (lb.none htb) not tb_not_fixed
      have ne : tb ≠ a := fun q => by rw [q, ga] at gtb; exact nomatch gtb
      exact wp_entry (s := { s with heap := s.heap.update tb (Obj.mapFields (·.setIfInBounds 3 Value.none)) }) hfr hf (o1.frames w) (o1.rel R) lb (lh.trans o1.live) hC ha ((Heap.get?_update_other _ _ ne).trans ga) hz no fun h' o' fl' => k h' (o1.trans o') fl'
theorem wp_flight {fr : Option Addr} (lb : Live cx.h₀ h) (fl : Flown cx ρ h s.heap c e) (k : ∀ h', Off cx ρ h s.heap h' → Flown cx ρ h h' c e → Q () { s with heap := h' }) : wpAny (model cx.prog cx.w) A (setFlight e fr) Q E s := by
  refine hideG fun G kG => ?_
  refine ex5 fl.is fun a C vs tb tvs zz => aNd11 zz fun zr5 hC ha ga hz no h1 htb gtb hzt not => ?_; subst zr5
  refine kG ?_
  unfold setFlight
  refine wpAny_bind (wpAny_field ga rfl h1 ?_)
  refine wpAny_setField gtb rfl (by exact o21 hzt) ?_
  have ne : tb ≠ a := fun q => by rw [q, ga] at gtb; exact nomatch gtb
  exact k _ (Off.upd gtb rfl htb (lb.none htb) not tb_not_fixed) ⟨a, C, vs, tb, _, rfl, hC, ha, (Heap.get?_update_other _ _ ne).trans ga, hz, no, h1, htb, Heap.get?_update_self _ gtb rfl, by rw [Array.size_setIfInBounds]; exact hzt, not⟩
theorem wp_leaving (hfr : A.frames = some (env :: outer)) (hf : env.frame = some L) (w : FramesOk cx (env :: outer) ρ s.heap) (R : Rel cx H ρ s) (lb : Live cx.h₀ h) (lh : Live h s.heap) (fl : Flying cx ρ h s.heap c e)
    (k : ∀ h', Off cx ρ h s.heap h' → Flown cx ρ h h' c e → Q () { s with heap := h' }) : wpAny (model cx.prog cx.w) A (leaving env e) Q E s := by
  unfold leaving
  exact wpAny_bind (wp_note hfr hf w R lb lh fl fun h1 o1 fl1 => wp_flight (s := { s with heap := h1 }) lb fl1 fun h2 o2 fl2 => k h2 (o1.trans o2) fl2)
theorem wp_back (lb : Live cx.h₀ h) (fl : Flown cx ρ h s.heap c e) (k : ∀ h', Off cx ρ h s.heap h' → Flown cx ρ h h' c e → E e { s with heap := h' }) : cameBackBy (model cx.prog cx.w) A env E e s := by
  refine hideG fun G kG => ?_
  refine ex5 fl.is fun a C vs tb tvs zz => aNd11 zz fun zr5 hC ha ga hz no h1 htb gtb hzt not => ?_; subst zr5
  refine kG ?_
  unfold cameBackBy
  refine wpAny_bind (wpAny_field ga rfl h1 ?_)
  exact wp_flight lb ⟨a, C, vs, tb, tvs, rfl, hC, ha, ga, hz, no, h1, htb, gtb, hzt, not⟩ fun h' o' fl' => k h' o' fl'
end
end Mine
-- part MFun
namespace Mine
open PySem
noncomputable def FunsOk (cx : Cx) (Φ : Funs) (d : Nat) : Prop :=
  ∀ (k : Nat) (a : Addr) (args : List Val) (vals : List Value) (A : Around) (l : List Env), cx.fns[k]? = some a → RoomF A d → A.frames = some l →
    Sim cx A ((Amb.vrs cx args vals).and (Amb.frames cx l)) (call (.ref a) vals) (Φ k args) (Amb.vr cx)
section
variable {cx : Cx} {N : Names} {A : Around} {env : Env} {sc : Scope} {ns : List (Option Str)} {Γ : Env'} {Φ : Funs} {d : Nat} {l : List Env}
theorem Base.func (B : Base cx N) {k : Nat} {a : Addr} (hk : cx.fns[k]? = some a) (hd : ∃ f, cx.T.funs[k]? = some f) : ∃ o fd, cx.h₀.get? a = some o ∧ o.data = .func fd := by
  refine hideG fun G kG => ?_
  obtain ⟨f, hf⟩ := hd
  refine ex4 ((B.fns k a f hk hf).is) fun o fd body ns zz => aNd4 zz fun e _ d _ => ?_
  refine kG ?_
  exact ⟨o, fd, e, d⟩
theorem sim_callU (B : Base cx N) {f : Nat} (hΦ : ∀ a args vals, cx.fns[f]? = some a → Sim cx A ((Amb.vrs cx args vals).and (Amb.frames cx l)) (call (.ref a) vals) (Φ f args) (Amb.vr cx)) {x : Str} {xs : List Expr} {es : MEs} {np pos : Pos} (hg : isGlob sc x = true) (hk : hasNo N.funs x f = true) (hex : ∃ g, cx.T.funs[f]? = some g) (hes : ckEs N sc ns es xs = true)
    (y : Sim cx A ((Amb.env cx env sc ns Γ).and (Amb.frames cx l)) (spliced (xs.map fun e => (false, eval e env))) (evalEs cx.T Φ es Γ) (Amb.vrs cx)) :
    Sim cx A ((Amb.env cx env sc ns Γ).and (Amb.frames cx l)) (eval (.Call (.Name x np) xs [] pos) env) (evalE cx.T Φ (.call f es) Γ) (Amb.vr cx) := by
  refine hideG fun G kG => ?_
  refine ex2 B.ns fun mg mb zz => aNd4 zz fun ng nb q _ => ?_
  refine ex1 (q x f (hasNo_eq hk)) fun a zz => aNd2 zz fun ha hx => ?_
  refine ex2 (B.func ha hex) fun o fd zz => aNd2 zz fun ho hd => ?_
  refine kG ?_
  intro H ρ s R p
  refine SimK.mono (simK_args (f := .ref a) (K := fun vs Q E s => (s.heap.get? a = some o ∧ o.data = .func fd) ∧ wpAny (model cx.prog cx.w) A (call (.ref a) vs) Q E s) (fun e => ckEs_nil (e ▸ hes)) R (y H ρ s R p) ?_ ?_) ?_
  · intro ms vs H1 ρ1 s1 _ F1 R1 vrs
    exact SimK.andK ⟨R1.base _ _ ho, hd⟩ (hΦ a ms vs ha H1 ρ1 s1 R1 ⟨vrs, (Amb.frames cx l).st _ _ _ _ p.2 F1⟩)
  · exact fun vs Q E Q' E' s h k1 k2 => ⟨h.1, wpAny_mono h.2 k1 k2⟩
  · intro Q E h
    refine wpAny_Call_ofName (wp_glob R p.1.st hg ng nb (.inl hx) ?_)
    rw [plainArgs_trees pos (ckEs_plain hes)]
    exact Calls.callWith_function (o := o) (fd := fd) (wpAny_mono h (fun b s₁ h₁ => by rw [h₁.1]; exact h₁.2) fun _ _ q => q)
theorem zip_lookup_get {α : Type} : ∀ {ns : List Str} {vs : List α} {i : Nat} {y : Str} {v : α}, ns.Nodup → ns[i]? = some y → vs[i]? = some v → (ns.zip vs).lookup y = some v
  | [], _, _, _, _, _, h, _ => by simp at h
  | _ :: _, [], _, _, _, _, _, h => by simp at h
  | n :: ns, u :: vs, 0, y, v, _, h1, h2 => by simp at h1 h2; subst h1 h2; simp [List.zip_cons_cons]
  | n :: ns, u :: vs, i + 1, y, v, nd, h1, h2 => by
    simp at h1 h2
    have ne : (y == n) = false := by
      have : y ∈ ns := List.mem_of_getElem? h1
      simpa using fun e : y = n => (List.nodup_cons.mp nd).1 (e ▸ this)
    rw [List.zip_cons_cons, List.lookup_cons, ne]
    exact zip_lookup_get (List.nodup_cons.mp nd).2 h1 h2
theorem filterMap_zip : ∀ {ns : List Str} {vs : List Value}, ns.Nodup → vs.length = ns.length → (ns.filterMap fun n => ((ns.zip vs).lookup n).map (n, ·)) = ns.zip vs := by
  have gen : ∀ (ns : List Str) (vs : List Value) (look : Str → Option Value), vs.length = ns.length → (∀ (i : Nat) (y : Str) (v : Value), ns[i]? = some y → vs[i]? = some v → look y = some v) → (ns.filterMap fun n => (look n).map (n, ·)) = ns.zip vs := by
    intro ns
    induction ns with
    | nil => intro vs look _ _; rfl
    | cons n ns ih =>
      intro vs look hl k
      cases vs with
      | nil => simp at hl
      | cons v vs =>
        have e := k 0 n v (by simp) (by simp)
        rw [List.filterMap_cons, e]
        simp only [Option.map_some, List.zip_cons_cons]
        rw [ih vs look (by simpa using hl) fun i y u h1 h2 => k (i + 1) y u (by simpa using h1) (by simpa using h2)]
  intro ns vs nd hl
  exact gen ns vs _ hl fun i y v h1 h2 => zip_lookup_get nd h1 h2
theorem ite_not {α : Type} {c : Prop} [Decidable c] {x y r : α} (h : ¬ c) (k : y = r) : (if c then x else y) = r := (if_neg h).trans k
theorem bindArgs_plain {fd : FuncData} {vals : List Value} {names : List Str} (h1 : fd.params.posonlyargs = []) (h2 : fd.params.args.map (·.arg) = names) (h3 : fd.params.vararg = none) (h4 : fd.params.kwonlyargs = []) (h5 : fd.params.kwarg = none) (h6 : fd.defaults = .none)
    (nd : names.Nodup) (hl : vals.length = names.length) : bindArgs fd ⟨vals, []⟩ = pure (names.zip vals) := by
  have hmiss : ∀ k : Nat, ((names.take k).filter fun n => ((names.zip vals).lookup n).isNone) = [] := by
    intro k
    rw [List.filter_eq_nil_iff]
    intro n hn
    obtain ⟨i, hi⟩ := List.mem_iff_getElem?.mp (List.mem_of_mem_take hn)
    have lt : i < vals.length := by rw [hl]; exact (List.getElem?_eq_some_iff.mp hi).1
    rw [zip_lookup_get nd hi (List.getElem?_eq_getElem lt)]
    simp
  have hf := filterMap_zip nd hl
  obtain ⟨_, _, ⟨po, ar, va, kw, kd, ka, de⟩, _, _, _, _, df, _⟩ := fd
  cases h1; cases h3; cases h4; cases h5; cases h6
  subst h2
  refine ite_not (fun w => ?_) ?_
  · rw [Bool.and_eq_true] at w
    exact absurd (of_decide_eq_true w.1) (by rw [hl]; exact Nat.lt_irrefl _)
  refine ite_not (fun w => ?_) ?_
  · have e := hmiss ((List.map (·.arg) ar).length - (List.drop (0 - (List.map (·.arg) ar).length) ([] : List Value)).length)
    exact Bool.false_ne_true ((congrArg (fun l => !List.isEmpty l) e).symm.trans w)
  have z : ∀ (X : List Str) (n : Nat), X.zip (List.drop n ([] : List Value)) = [] := fun X n => by rw [List.drop_nil, List.zip_nil_right]
  refine Eq.trans (congrArg (fun (l : List (Str × Value)) => Bind.bind (forIn l _ _) _) (z (List.drop _ (List.map (·.arg) ar)) _)) ?_
  refine Eq.trans ?_ (congrArg pure hf)
  exact congrArg (fun l => (pure (List.filterMap (fun n => Option.map (fun x => (n, x)) (List.lookup n (List.zip (List.map (fun x => x.arg) ar) vals))) l) : Sem (List (Str × Value)))) (List.append_nil _)
set_option tactic.hygienic true in
theorem cells_has : ∀ {names : List (Str × NameKind)} {n : Nat} {acc : List (Str × Addr)} {y : Str}, ((y, NameKind.cell) ∈ names ∨ (acc.lookup y).isSome = true) → ((cellsFrom n names acc).lookup y).isSome = true
  | [], _, _, _, h => by
    rcases h with h | h
    · cases h
    · exact h
  | (z, k) :: r, n, acc, y, h => by
    unfold cellsFrom
    split
    · rename_i hk
      refine cells_has ?_
      rcases h with h | h
      · rcases List.mem_cons.mp h with e | h
        · cases e; right; simp
        · exact .inl h
      · right
        rw [List.lookup_cons]
        split
        · rfl
        · exact h
    · rename_i hk
      refine cells_has ?_
      rcases h with h | h
      · rcases List.mem_cons.mp h with e | h
        · cases e; simp at hk
        · exact .inl h
      · exact .inr h
theorem bindL_get {kd : Str → Option NameKind} : ∀ {binds : List (Str × Value)} {m : Str → Option Value} {y : Str} {v : Value}, (binds.map (·.1)).Nodup → (y, v) ∈ binds → kd y = some .local → bindL kd binds m y = some v := by
  have keep : ∀ (binds : List (Str × Value)) (m : Str → Option Value) (y : Str), y ∉ binds.map (·.1) → bindL kd binds m y = m y := by
    intro binds
    induction binds with
    | nil => intro m y _; rfl
    | cons b r ih =>
      intro m y hy
      obtain ⟨n, v⟩ := b
      simp only [List.map_cons, List.mem_cons, not_or] at hy
      unfold bindL
      rw [ih _ _ hy.2]
      split
      · simp [hy.1]
      · rfl
  intro binds
  induction binds with
  | nil => intro m y v _ h _; cases h
  | cons b r ih =>
    intro m y v nd h hk
    obtain ⟨n, u⟩ := b
    rw [List.map_cons, List.nodup_cons] at nd
    unfold bindL
    rcases List.mem_cons.mp h with e | h
    · cases e
      rw [keep _ _ _ nd.1, if_pos hk]
      simp
    · exact ih nd.2 h hk
theorem bindC_get {kd : Str → Option NameKind} : ∀ {binds : List (Str × Value)} {m : Str → Option Value} {y : Str} {v : Value}, (binds.map (·.1)).Nodup → (y, v) ∈ binds → kd y ≠ some .local → bindC kd binds m y = some v := by
  have keep : ∀ (binds : List (Str × Value)) (m : Str → Option Value) (y : Str), y ∉ binds.map (·.1) → bindC kd binds m y = m y := by
    intro binds
    induction binds with
    | nil => intro m y _; rfl
    | cons b r ih =>
      intro m y hy
      obtain ⟨n, v⟩ := b
      simp only [List.map_cons, List.mem_cons, not_or] at hy
      unfold bindC
      rw [ih _ _ hy.2]
      split
      · rfl
      · simp [hy.1]
  intro binds
  induction binds with
  | nil => intro m y v _ h _; cases h
  | cons b r ih =>
    intro m y v nd h hk
    obtain ⟨n, u⟩ := b
    rw [List.map_cons, List.nodup_cons] at nd
    unfold bindC
    rcases List.mem_cons.mp h with e | h
    · cases e
      rw [keep _ _ _ nd.1, if_neg hk]
      simp
    · exact ih nd.2 h hk
noncomputable def BodyOk (cx : Cx) (N : Names) (Φ : Funs) (d : Nat) : Prop :=
  ∀ (body : MSs) (stmts : List Stmt) (env : Env) (sc : Scope) (ns : List (Option Str)) (A : Around) (l : List Env), ckSs N sc ns body stmts = true → (∀ (i j : Nat) (y : Str), ns[i]? = some (some y) → ns[j]? = some (some y) → i = j) → Room A d → A.frames = some (env :: l) →
    env.frame = some env.locals → SimS cx A (env :: l) env sc ns (execs stmts env) (execSs cx.T Φ body)
theorem nodupS_inj : ∀ {ns : List (Option Str)}, nodupS ns = true → ∀ (i j : Nat) (y : Str), ns[i]? = some (some y) → ns[j]? = some (some y) → i = j
  | [], _, i, _, _, h, _ => by simp at h
  | none :: r, nd, i, j, y, h1, h2 => by
    cases i with
    | zero => simp at h1
    | succ i => cases j with
      | zero => simp at h2
      | succ j => simp at h1 h2; rw [nodupS_inj (by simpa [nodupS] using nd) i j y h1 h2]
  | some x :: r, nd, i, j, y, h1, h2 => by
    simp only [nodupS, Bool.and_eq_true, Bool.not_eq_true', List.contains_eq_mem, decide_eq_false_iff_not] at nd
    cases i with
    | zero =>
      cases j with
      | zero => rfl
      | succ j =>
        simp at h1 h2
        subst h1
        exact absurd (List.mem_of_getElem? h2) nd.1
    | succ i =>
      cases j with
      | zero =>
        simp at h1 h2
        subst h2
        exact absurd (List.mem_of_getElem? h1) nd.1
      | succ j =>
        simp at h1 h2
        rw [nodupS_inj nd.2 i j y h1 h2]
theorem nodup_of_inj {ns : List Str} (h : ∀ (i j : Nat) (y : Str), (ns.map some)[i]? = some (some y) → (ns.map some)[j]? = some (some y) → i = j) : ns.Nodup := by
  refine List.pairwise_iff_getElem.mpr fun i j hi hj lt e => ?_
  have := h i j ns[i] (by rw [List.getElem?_map, List.getElem?_eq_getElem hi]; rfl) (by rw [List.getElem?_map, List.getElem?_eq_getElem hj, e]; rfl)
  exact o22 lt this
theorem ckF_parts {f : MFun} {names : List Str} {params : Arguments} {body : List Stmt} {sc : Scope} (h : ckF N f names params body sc = true) :
    f.arity + f.nvars = names.length ∧ names.take f.arity = params.args.map (·.arg) ∧ params.posonlyargs = [] ∧ params.vararg = none ∧ params.kwonlyargs = [] ∧ params.kwarg = none ∧ nodupS (names.map some) = true ∧
      sc.isCoroutine = false ∧ sc.isGenerator = false ∧ sc.kind = .function ∧ ckSs N sc (names.map some) f.body body = true ∧
      (∀ p ∈ sc.names, p.2 = .cell → sc.names.lookup p.1 = some .cell) ∧ (∀ p ∈ sc.names, p.2 ≠ .free) ∧ (∀ y ∈ names.take f.arity, sc.names.lookup y = some .local ∨ sc.names.lookup y = some .cell) := by
  unfold ckF at h
  simp only [Bool.and_eq_true, decide_eq_true_eq, List.isEmpty_iff, Option.isNone_iff_eq_none, Bool.not_eq_true'] at h
  refine hideG fun G kG => ?_
  obtain ⟨⟨⟨⟨⟨⟨⟨⟨⟨⟨⟨⟨⟨⟨h1, h2⟩, h3⟩, h4⟩, h5⟩, h6⟩, h7⟩, h8⟩, h9⟩, h10⟩, h11⟩, h12⟩, h13⟩, h14⟩, h15⟩ := h
  refine kG ?_
  refine ⟨h1, h2, h3, h4, h5, h6, h9, h10, h11, ?_, h13, ?_, ?_, ?_⟩
  · split at h12
    · assumption
    · cases h12
  · intro p hp hc
    have := List.all_eq_true.mp h14 p hp
    rw [hc] at this
    simp only at this
    split at this
    · assumption
    · cases this
  · intro p hp hc
    have := List.all_eq_true.mp h14 p hp
    rw [hc] at this
    cases this
  · intro y hy
    have := List.all_eq_true.mp h15 y hy
    split at this
    · left; assumption
    · right; assumption
    · cases this
theorem Room.deeper {d : Nat} (r : RoomF A (d + 1)) (env : Env) : Room (A.deeper env) d := ⟨r.hh, by have := r.depth; show A.depth + 1 + _ + _ < _; exact o23 this, by have := r.units; show A.units + 3 + _ + _ < _; exact o24 this⟩
theorem call_step (B : Base cx N) {k : Nat} {a : Addr} {args : List Val} {vals : List Value} (hk : cx.fns[k]? = some a) (room : RoomQ A (d + 1)) (hfr : A.frames = some l)
    (hb : ∀ (f : MFun) (stmts : List Stmt) (env : Env) (sc : Scope) (ns : List (Option Str)), cx.T.funs[k]? = some f → ckSs N sc ns f.body stmts = true → (∀ (i j : Nat) (y : Str), ns[i]? = some (some y) → ns[j]? = some (some y) → i = j) → (A.deeper env).frames = some (env :: l) → env.frame = some env.locals →
      SimS cx (A.deeper env) (env :: l) env sc ns (execs stmts env) (execSs cx.T (callF cx.T d) f.body)) :
    Sim cx A ((Amb.vrs cx args vals).and (Amb.frames cx l)) (call (.ref a) vals) (callF cx.T (d + 1) k args) (Amb.vr cx) := by
  intro H ρ s R ⟨vrs, fok⟩
  rw [callF]
  cases hf : cx.T.funs[k]? with
  | none => trivial
  | some f =>
    show SimAt cx A (if args.length = f.arity then resOf (execSs cx.T (callF cx.T d) f.body (args.map some ++ List.replicate f.nvars none) H) else .bad) _ _ ρ s
    by_cases hl : args.length = f.arity
    · rw [if_pos hl]
      refine hideG fun G kG => ?_
      refine ex4 ((B.fns k a f hk hf).is) fun o fd body names zz => aNd11 zz fun ho hoc hdata hcd hbody hclo hglob hblt hdf hkd hck => ?_
      refine aNd14 (ckF_parts hck) fun c1 c2 c3 c4 c5 c6 c7 c8 c9 c10 c11 c12 c13 c14 => ?_
      refine kG ?_
      have nd := nodupS_inj c7
      have nds : names.Nodup := nodup_of_inj nd
      have ndt : (names.take f.arity).Nodup := nds.sublist (List.take_sublist _ _)
      have vlen : vals.length = (names.take f.arity).length := by rw [List.length_take, ← vrs.length, hl]; exact o25 c1
      have hbind : bindArgs fd ⟨vals, []⟩ = pure ((names.take f.arity).zip vals) := bindArgs_plain c3 c2.symm c4 c5 c6 hdf ndt vlen
      have hkind : ∀ x ∈ (names.take f.arity).zip vals, fd.scope.names.lookup x.1 = some .local ∨ (fd.scope.names.lookup x.1 = some .cell ∧ ((cellsFrom (s.heap.objs.size + 1) fd.scope.names []).lookup x.1).isSome = true) := by
        intro x hx
        rcases c14 x.1 (List.of_mem_zip hx).1 with h | h
        · exact .inl h
        · exact .inr ⟨h, cells_has (.inl (mem_of_lookup h))⟩
      generalize henv : callEnvC fd s.heap.objs.size a = env
      have eloc : env.locals = s.heap.objs.size := by rw [← henv]; rfl
      have escope : env.scope = fd.scope := by rw [← henv]; rfl
      have ecells : env.cells = cellsFrom (s.heap.objs.size + 1) fd.scope.names [] := by rw [← henv]; rfl
      have egl : env.globals = mainGlobals := by rw [← henv]; exact hglob
      have ebl : env.builtins = builtinsNs := by rw [← henv]; exact hblt
      have efr : env.frame = some env.locals := by rw [← henv]; rfl
      have ekind : ∀ y, env.kindOf y = fd.scope.names.lookup y := fun y => by unfold Env.kindOf; rw [escope]
      -- the body
      have main : ∀ s₁, InCallC s env.locals (bindL env.kindOf ((names.take f.arity).zip vals) fun _ => none) env.cells (bindC env.kindOf ((names.take f.arity).zip vals) fun _ => none) s₁ →
          Full ρ s.heap ρ s₁.heap ∧ SimSAt cx (A.deeper env) env fd.scope (names.map some) (execSs cx.T (callF cx.T d) f.body (args.map some ++ List.replicate f.nvars none) H) (execs body env) ρ s₁ := by
        intro s₁ x
        have hkeep := x.toInCall.keep
        have F0 : Full ρ s.heap ρ s₁.heap := Full.more hkeep
        refine ex2 x.toInCall.same fun h₁ tk e1 => ?_
        have R1 : Rel cx H ρ s₁ := by rw [e1] at hkeep ⊢; exact R.more hkeep
        have locfresh : s.heap.get? env.locals = none := by rw [eloc]; exact fresh_none _
        have lvB : Live cx.h₀ s.heap := fun b o e => ⟨o, R.base b o e⟩
        have cfresh : ∀ y c, env.cells.lookup y = some c → s.heap.get? c = none := fun y c hc => fresh_le (by have := x.above y c (mem_of_lookup hc); rw [eloc] at this; exact Nat.le_of_lt this)
        have cellFacts : ∀ y c, env.cells.lookup y = some c → s₁.heap.IsCell c (bindC env.kindOf ((names.take f.arity).zip vals) (fun _ => none) y) := fun y c hc => x.cell y c hc
        have eok : EnvOk cx env fd.scope (names.map some) (args.map some ++ List.replicate f.nvars none) ρ s₁.heap := by
          refine ⟨⟨by rw [escope]; exact c10, egl, ebl, fun y kd hy => ?_, ⟨_, x.toInCall.ns⟩, R.fresh_not locfresh, lvB.none locfresh, fun y c hc => ⟨⟨_, cellFacts y c hc⟩, R.fresh_not (cfresh y c hc), lvB.none (cfresh y c hc)⟩, fun y hy => ?_, fun y z c hy hz => name_of_addr x.apart (mem_of_lookup hy) (mem_of_lookup hz)⟩, by rw [List.length_append, List.length_map, List.length_replicate, List.length_map, hl]; exact c1, ?_⟩
          · rw [ekind, hy]
            cases kd <;> first | rfl | exact .inl rfl | trivial
          · rcases hy with hy | hy
            · rw [ecells]
              exact Option.isSome_iff_exists.mp (cells_has (.inl (mem_of_lookup hy)))
            · exact absurd rfl (c13 _ (mem_of_lookup hy))
          · intro i y mv hi hm
            have hi' : names[i]? = some y := by rw [List.getElem?_map] at hi; cases q : names[i]? <;> rw [q] at hi <;> simp at hi; rw [hi]
            by_cases lt : i < f.arity
            · have ha : args[i]? = some mv := by
                rw [List.getElem?_append_left (by rw [List.length_map, hl]; exact lt), List.getElem?_map] at hm
                cases q : args[i]? <;> rw [q] at hm <;> simp at hm
                rw [hm]
              refine ex1 (vrs.get ha) fun v zz => aNd2 zz fun ev vr => ?_
              have et : (names.take f.arity)[i]? = some y := by rw [List.getElem?_take, if_pos lt]; exact hi'
              have mem : (y, v) ∈ (names.take f.arity).zip vals := by
                refine List.mem_iff_getElem?.mpr ⟨i, ?_⟩
                rw [List.getElem?_zip_eq_some]; exact ⟨et, ev⟩
              have ndz : (((names.take f.arity).zip vals).map (·.1)).Nodup := by
                rw [List.map_fst_zip (by rw [vlen]; exact Nat.le_refl _)]; exact ndt
              refine ⟨v, ?_, vr.step F0.step⟩
              rcases c14 y (List.mem_of_getElem? et) with h | h
              · exact .inl ⟨by rw [ekind]; exact h, _, x.toInCall.ns, bindL_get ndz mem (by rw [ekind]; exact h)⟩
              · obtain ⟨c, hc⟩ := Option.isSome_iff_exists.mp (cells_has (n := s.heap.objs.size + 1) (acc := []) (.inl (mem_of_lookup h)))
                rw [← ecells] at hc
                have := cellFacts y c hc
                rw [bindC_get ndz mem (by rw [ekind, h]; simp)] at this
                exact .inr ⟨.inl (by rw [ekind]; exact h), c, hc, this⟩
            · exfalso
              rw [List.getElem?_append_right (by rw [List.length_map, hl]; exact o26 c1 lt), List.getElem?_replicate] at hm
              split at hm <;> simp at hm
        refine ⟨F0, hb f body env fd.scope (names.map some) hf c11 nd (by show A.frames.map (env :: ·) = _; rw [hfr]; rfl) efr _ H ρ s₁ R1 eok ?_⟩
        · intro e he
          rcases List.mem_cons.mp he with rfl | he
          · refine hideG fun G kG => ?_
            refine ex3 x.toInCall.ns fun o' es ep zz => aNd3 zz fun eo' d' _ => ?_
            refine kG ?_
            exact ⟨by rw [escope, c10]; simp, e.locals, o', efr, lvB.none locfresh, eo', ⟨_, _, d'⟩, R.fresh_not locfresh⟩
          · exact (fok.full F0) e he
      -- what stands of the caller's heap
      have back : ∀ {s₁ ρ' h'}, Full ρ s.heap ρ s₁ → FullS env ρ s₁ ρ' h' → (∀ y c, env.cells.lookup y = some c → s.heap.get? c = none) → Full ρ s.heap ρ' h' := by
        intro s₁ ρ' h' F0 F1 cf
        refine ⟨?_, fun b ob e n => ?_, F0.live.trans F1.live⟩
        · exact F0.grow.trans F1.grow F0.live
        · refine hideG fun G kG => ?_
          refine ex1 (F0.keep b ob e n) fun o1 zz => aNd2 zz fun e1 u1 => ?_
          refine ex1 (F1.keep b o1 e1 n (fun q => by rw [q, eloc, fresh_none] at e; exact nomatch e) (fun y q => by rw [cf y b q] at e; cases e)) fun o2 zz => aNd2 zz fun e2 u2 => ?_
          refine kG ?_
          exact ⟨o2, e2, u1.trans u2⟩
      have cf : ∀ y c, env.cells.lookup y = some c → s.heap.get? c = none := fun y c hc => by
        refine fresh_le ?_
        have ok := cellsFrom_ok fd.scope.names (s.heap.push { cls := .type "frame", data := .dict #[] }) (s.heap.objs.size + 1) [] ⟨fun _ _ hm => (nomatch hm), List.Pairwise.nil⟩ (by rw [Heap.size_push]; exact Nat.le_refl _)
        rw [Heap.size_push] at ok
        rw [ecells] at hc
        exact Nat.le_of_succ_le (ok.empty y c (mem_of_lookup hc)).2
      have hlim : s.heap.NoLimit := B.lim.keeps R.base
      have hcd' : s.heap.CodeRec fd.code fd.qualname := hcd.keeps R.base
      generalize hres : execSs cx.T (callF cx.T d) f.body (args.map some ++ List.replicate f.nvars none) H = res at main
      cases res with
      | bad => trivial
      | next Γ' H' =>
        refine wpAny_call (codeAny_call_cells (by have := room.depth; exact o27 this) (R.base _ _ ho) hdata hlim hcd' hbody hbind hclo hkind (fun s₁ x => ?_) c8 c9 c10)
        rw [henv] at x ⊢
        obtain ⟨F0, sim⟩ := main s₁ x
        exact wpAny_mono sim (fun fl s' ⟨h1, ρ', F1, R', _⟩ => by refine Eq.symm h1 ▸ ?_; exact ⟨ρ', back F0 F1 cf, R', .none⟩) fun _ _ q => q.elim
      | ret v H' =>
        refine wpAny_call (codeAny_call_cells (by have := room.depth; exact o27 this) (R.base _ _ ho) hdata hlim hcd' hbody hbind hclo hkind (fun s₁ x => ?_) c8 c9 c10)
        rw [henv] at x ⊢
        obtain ⟨F0, sim⟩ := main s₁ x
        exact wpAny_mono sim (fun fl s' ⟨v', ρ', h1, F1, R', vr⟩ => by refine Eq.symm h1 ▸ ?_; exact ⟨ρ', back F0 F1 cf, R', vr.1⟩) fun _ _ q => q.elim
      | exc c Γ' H' =>
        refine wpAny_call (codeAny_call_cells (by have := room.depth; exact o27 this) (R.base _ _ ho) hdata hlim hcd' hbody hbind hclo hkind (fun s₁ x => ?_) c8 c9 c10)
        rw [henv] at x ⊢
        obtain ⟨F0, sim⟩ := main s₁ x
        refine wpAny_mono sim (fun _ _ q => q.elim) fun e s' ⟨ρ', F1, R', e0, fl⟩ => ?_
        have w : FramesOk cx (env :: l) ρ' s'.heap := fun en he => by
          rcases List.mem_cons.mp he with rfl | he
          · refine hideG fun G kG => ?_
            refine ex1 e0.st.loc fun m zz => ex3 zz fun o' es ep zz => aNd3 zz fun eo' d' _ => ?_
            refine kG ?_
            exact ⟨by rw [e0.st.fn]; simp, en.locals, o', efr, e0.st.locB, eo', ⟨_, _, d'⟩, e0.st.locN⟩
          · exact (fok.full (back F0 F1 cf)) en he
        exact wp_leaving (by show A.frames.map (env :: ·) = _; rw [hfr]; rfl) efr w R' (fun b o e => F0.live b o (R.base b o e)) F1.live fl fun h' o' fl' => ⟨ρ', back F0 (o'.fullS F1) cf, o'.rel R', fl'.to.older F0.live⟩
    · rw [if_neg hl]; trivial
theorem FunsOk.step (B : Base cx N) (hb : BodyOk cx N (callF cx.T d) d) : FunsOk cx (callF cx.T (d + 1)) (d + 1) :=
  fun k a args vals A l hk room hfr => call_step B hk room.q hfr fun f stmts env sc ns _ h1 h2 h3 h4 => hb f.body stmts env sc ns (A.deeper env) l h1 h2 (Room.deeper room env) h3 h4
end
end Mine
-- part MIter
namespace Mine
open PySem
inductive ItOk (cx : Cx) (xs : List Val) (I : Addr) (i : Nat) (ρ : Rho) (h : Heap) : Option Nat → Prop
  | list {l : Nat} {p : Addr × Addr} : ρ[l]? = some p → h.IsListIter I p.1 i → ItOk cx xs I i ρ h (some l)
  | rng {n : Int} : xs = (List.range n.toNat).map (fun (k : Nat) => Val.int (k : Int)) → IsRangeIter h I (i : Nat) ((n.toNat : Int) - (i : Nat)) 1 → ItOk cx xs I i ρ h none
noncomputable def IterO (o : Obj) : Prop := (∃ vs, o.data = .fields vs) ∧ ∃ n, o.cls = .type n ∧ n ≠ "range"
theorem IterO.not {o : Obj} (x : IterO o) : ¬ Fixed o ∧ ∀ C, ¬ IsExcO o C := by
  refine hideG fun G kG => ?_
  refine aNd2 x fun zn0 zz => ex1 zz fun n zz => aNd2 zz fun c ne => ?_; obtain ⟨vs, d⟩ := zn0
  refine kG ?_
  refine ⟨fun f => ?_, fun C f => ?_⟩
  · rcases f with ⟨_, xs, k, f⟩ | ⟨f, _⟩
    · rw [d] at f; cases f
    · rw [c] at f; cases f; exact ne rfl
  · rw [f.1] at c; cases c
theorem IterO.notDict {o : Obj} (x : IterO o) (es : Array DictEntry) (n : Nat) : o.data ≠ .dict es n := by
  obtain ⟨⟨vs, d⟩, _⟩ := x
  rw [d]; exact fun q => nomatch q
theorem IterO.notCell {o : Obj} (x : IterO o) (v : Option Value) : o.data ≠ .cell v := by
  obtain ⟨⟨vs, d⟩, _⟩ := x
  rw [d]; exact fun q => nomatch q
theorem listO_not {vs : List Value} {n : Nat} : ¬ Fixed (listO vs n) ∧ ∀ C, ¬ IsExcO (listO vs n) C := by
  refine ⟨fun f => ?_, fun C f => by cases f.1⟩
  rcases f with ⟨f, _⟩ | ⟨f, _⟩
  · exact absurd (Value.type.inj f) (by decide)
  · exact absurd (Value.type.inj f) (by decide)
section
variable {cx : Cx} {A : Around} {xs : List Val} {I : Addr} {i : Nat} {ρ ρ' : Rho} {s : Shared} {H : Hp} {src : Option Nat}
theorem ItOk.step {h h' : Heap} (x : ItOk cx xs I i ρ h src) (st : Step ρ h ρ' h') (k : ∀ o, h.get? I = some o → h'.get? I = some o) : ItOk cx xs I i ρ' h' src := by
  cases x with
  | list hp hi => exact .list (st.get hp) (hi.at k)
  | rng e hi => exact .rng e (k _ hi)
theorem ItOk.obj {h : Heap} (x : ItOk cx xs I i ρ h src) : ∃ o, h.get? I = some o ∧ IterO o := by
  cases x with
  | list hp hi => refine ex1 hi fun o zz => aNd3 zz fun e c d => ?_; exact ⟨o, e, ⟨_, d⟩, _, c, by decide⟩
  | rng e hi => exact ⟨_, hi, ⟨_, rfl⟩, _, rfl, by decide⟩
set_option tactic.hygienic true in
theorem iter_start {v : Val} {w : Value} (R : Rel cx H ρ s) (vr : VR cx ρ s.heap v w) (e : iterOf v H = some (xs, src)) {Q : Value → Shared → Prop} {E : Value → Shared → Prop}
    (k : ∀ o, (s.heap.push o).get? s.heap.objs.size = some o → ItOk cx xs s.heap.objs.size 0 ρ (s.heap.push o) src → Q (.ref s.heap.objs.size) { s with heap := s.heap.push o }) :
    wpAny (model cx.prog cx.w) A (pyIter w) Q E s := by
  have P := fun o => Full.push ρ s.heap o
  cases vr with
  | @loc l p hp =>
    simp only [iterOf] at e
    split at e
    · rename_i ys hl
      cases e
      refine hideG fun G kG => ?_
      refine ex2 (R.listAt hl hp) fun vs n zz => aNd4 zz fun _ g r z => ?_
      refine kG ?_
      refine wpAny_pyIter_list (items := vs.toArray) ⟨_, g, rfl, n, rfl⟩ (k _ (Heap.get?_push_size _ rfl) (.list hp ⟨_, Heap.get?_push_size _ rfl, rfl, rfl⟩))
    · cases e
  | @rng a n t u v g no z1 z2 =>
    cases e
    refine wpAny_pyIter_range g (small_one (by omega) (by omega) z1 z2) (k _ (Heap.get?_push_size _ rfl) (.rng rfl ?_))
    have e1 : Builtin.Range.rangeSize 0 n 1 = ((n.toNat : Nat) : Int) := by rw [rangeSize_one]; split <;> omega
    rw [e1]
    simpa using Heap.get?_push_size s.heap (o := { cls := .type "range_iterator", data := .fields #[rawInt 0, rawInt (n.toNat : Int), rawInt 1] }) rfl
  | _ => cases e
set_option tactic.hygienic true in
theorem iter_item (R : Rel cx H ρ s) (x : ItOk cx xs I i ρ s.heap src) (ck : chk src xs H = true) {m : Val} (hm : xs[i]? = some m) {Q : Option Value → Shared → Prop} {E : Value → Shared → Prop}
    (k : ∀ v h' tk, Heap.SameBut I s.heap h' → (∃ o, h'.get? I = some o) → (∀ st : Step ρ s.heap ρ h', VR cx ρ h' m v ∧ ItOk cx xs I (i + 1) ρ h' src) → Q (some v) { s with heap := h', toks := tk }) :
    wpAny (model cx.prog cx.w) A (pyNext (.ref I)) Q E s := by
  cases x with
  | @list l p hp hi =>
    simp only [chk] at ck
    split at ck
    · rename_i ys hl
      have := sames_eq _ _ ck
      subst this
      refine hideG fun G kG => ?_
      refine ex2 (R.listAt hl hp) fun vs n zz => aNd4 zz fun _ g r z => ?_
      refine ex1 (r.get hm) fun v zz => aNd2 zz fun ev vr => ?_
      refine kG ?_
      exact wpAny_pyNext_list_item (items := vs.toArray) hi ⟨_, g, rfl, n, rfl⟩ (by simpa using ev) fun h' hi' hs => k v h' s.toks hs (by refine ex1 hi' fun o zz => aNd2 zz fun e _ => ?_; exact ⟨o, e⟩) fun st => ⟨vr.step st, .list hp hi'⟩
    · cases ck
  | @rng n e hi =>
    subst e
    have lt : i < n.toNat := by
      have := (List.getElem?_eq_some_iff.mp hm).1
      simpa using this
    have hm' : m = .int (i : Int) := by
      rw [List.getElem?_map, List.getElem?_range lt] at hm
      simpa using hm.symm
    subst hm'
    refine wpAny_pyNext_range_item hi (by exact o28 lt) fun h' hi' hs => k _ h' _ hs ⟨_, hi'⟩ fun st => ⟨.int _ _, .rng rfl ?_⟩
    have e1 : ((i + 1 : Nat) : Int) = (i : Int) + 1 := by exact o29
    have e2 : ((n.toNat : Int) - ((i + 1 : Nat) : Int)) = (n.toNat : Int) - (i : Int) - 1 := by exact o30
    rw [e1, ← e1, e2]
    exact hi'
set_option tactic.hygienic true in
theorem iter_end (hh : A.handled = none) (R : Rel cx H ρ s) (x : ItOk cx xs I i ρ s.heap src) (ck : chk src xs H = true) (hm : xs[i]? = none) {Q : Option Value → Shared → Prop} {E : Value → Shared → Prop}
    (k : ∀ h' tk, Heap.ExtBut I s.heap h' → Q none { s with heap := h', toks := tk }) : wpAny (model cx.prog cx.w) A (pyNext (.ref I)) Q E s := by
  cases x with
  | @list l p hp hi =>
    simp only [chk] at ck
    split at ck
    · rename_i ys hl
      have := sames_eq _ _ ck
      subst this
      refine hideG fun G kG => ?_
      refine ex2 (R.listAt hl hp) fun vs n zz => aNd4 zz fun _ g r z => ?_
      refine kG ?_
      have len := r.length
      refine wpAny_pyNext_list_end (items := vs.toArray) hh hi ⟨_, g, rfl, n, rfl⟩ ?_ fun h' he => k h' s.toks he
      rw [List.getElem?_eq_none_iff] at hm
      simp; exact o31 len hm
    · cases ck
  | @rng n e hi =>
    subst e
    rw [List.getElem?_eq_none_iff] at hm
    simp at hm
    exact wpAny_pyNext_range_end hh hi (by exact o32 hm) fun h' he => k h' s.toks he
end
end Mine
-- part MSortP
namespace Mine
open PySem PySem.W PyProof.Rows
noncomputable def KAll {α : Type} (lt : Nat → Nat → Bool) (n : Nat) (P : α → Prop) : KasT α → Prop
  | .ret a => P a
  | .ask i j k => i < n ∧ j < n ∧ KAll lt n P (k (lt i j))
theorem KAll.bind {α β : Type} {lt : Nat → Nat → Bool} {n : Nat} {P : α → Prop} {Q : β → Prop} {f : α → KasT β} : ∀ (t : KasT α), KAll lt n P t → (∀ a, P a → KAll lt n Q (f a)) → KAll lt n Q (t.bind f)
  | .ret a, h, k => k a h
  | .ask i j g, h, k => ⟨h.1, h.2.1, KAll.bind (g (lt i j)) h.2.2 k⟩
theorem KAll.wp {α : Type} {lt : Nat → Nat → Bool} {n : Nat} {P : α → Prop} {cmp : Nat → Nat → (Bool → Shared → Prop) → Shared → Prop} {G : α → Shared → Prop} {s : Shared} (hc : ∀ i j C, i < n → j < n → C (lt i j) s → cmp i j C s) (hG : ∀ a, P a → G a s) : ∀ (t : KasT α), KAll lt n P t → t.kasWp cmp G s
  | .ret a, h => hG a h
  | .ask i j g, h => hc i j _ h.1 h.2.1 (KAll.wp hc hG (g (lt i j)) h.2.2)
structure Ltw (lt : Nat → Nat → Bool) : Prop where
  asym : ∀ i j, lt i j = true → lt j i = false
  tr : ∀ i j k, lt j i = false → lt k j = false → lt k i = false
section
variable {lt : Nat → Nat → Bool} {n : Nat} {p : Array Nat}
noncomputable abbrev gd (p : Array Nat) (i : Nat) : Nat := p.getD i 0
noncomputable def Asc (lt : Nat → Nat → Bool) (p : Array Nat) (k : Nat) : Prop := ∀ i j, i < j → j < k → lt (gd p j) (gd p i) = false
noncomputable def Dsc (lt : Nat → Nat → Bool) (p : Array Nat) (k : Nat) : Prop := ∀ i j, i < j → j < k → lt (gd p i) (gd p j) = false
noncomputable def Pn (n : Nat) (p : Array Nat) : Prop := p.Perm (List.range n).toArray
theorem Pn.size (h : Pn n p) : p.size = n := by have := h.size_eq; simpa using this
theorem Pn.low (h : Pn n p) (h0 : 0 < n) (i : Nat) : gd p i < n := by
  by_cases q : i < p.size
  · have e : gd p i = p[i] := by simp [gd, Array.getD, q]
    have m : p[i] ∈ (List.range n) := by
      have := (Array.perm_iff_toList_perm.mp h).mem_iff (a := p[i])
      simpa using this
    rw [e]; simpa using m
  · have e : gd p i = 0 := by simp [gd, Array.getD, q]
    exact o33 h0 e
theorem gd_eq {q : Array Nat} {i j : Nat} (h : q[i]? = p[j]?) : gd q i = gd p j := by
  have a : ∀ (r : Array Nat) (k : Nat), gd r k = (r[k]?).getD 0 := fun r k => by simp [gd]
  rw [a, a, h]
theorem rev_pn (h : Pn n p) (i j : Nat) : Pn n (kas_rev p i j) := (mirror_perm p i j _).trans h
theorem KAll.mono {α : Type} {P Q : α → Prop} (k : ∀ a, P a → Q a) : ∀ (t : KasT α), KAll lt n P t → KAll lt n Q t
  | .ret a, h => k a h
  | .ask i j g, h => ⟨h.1, h.2.1, KAll.mono k (g (lt i j)) h.2.2⟩
theorem half_of (a : Nat) : ∃ h, a / 2 = h ∧ 2 * h ≤ a ∧ a < 2 * h + 2 := ⟨_, rfl, by exact o34, by exact o35⟩
theorem mid_of {i j k h : Nat} (a : k < j - h) (b : i + h ≤ k) (c : j - i < 2 * h + 2) : i + j - 1 - k = k := by exact o36 b c a
theorem rev_gd {i j : Nat} (hj : j ≤ p.size) (k : Nat) : gd (kas_rev p i j) k = if i ≤ k ∧ k < j then gd p (i + j - 1 - k) else gd p k := by
  refine ex1 (half_of (j - i)) fun h zz => aNd3 zz fun eh l1 l2 => ?_
  have e : (kas_rev p i j)[k]? = if (i ≤ k ∧ k < i + h) ∨ (j - h ≤ k ∧ k < j) then p[i + j - 1 - k]? else p[k]? := by
    rw [← eh] at l1 ⊢; exact getElem?_mirror (i := i) hj ((j - i) / 2) l1 k
  by_cases q : i ≤ k ∧ k < j
  · rw [if_pos q]
    refine gd_eq (e.trans ?_)
    by_cases q2 : (i ≤ k ∧ k < i + h) ∨ (j - h ≤ k ∧ k < j)
    · rw [if_pos q2]
    · rw [if_neg q2, mid_of (Nat.not_le.mp fun w => q2 (.inr ⟨w, q.2⟩)) (Nat.not_lt.mp fun w => q2 (.inl ⟨q.1, w⟩)) l2]
  · rw [if_neg q]
    refine gd_eq (e.trans (if_neg fun w => q ?_))
    rcases w with w | w
    · exact ⟨w.1, by clear e eh l2 q hj; exact o37 l1 w⟩
    · exact ⟨by clear e eh l2 q hj; exact o38 w l1, w.2⟩
theorem bub_pn (h : Pn n p) (k d : Nat) : Pn n (bubble p k d) := (bubble_perm p k d).trans h
theorem bub_gd {k d : Nat} (hk : k < p.size) (hd : d ≤ k) (j : Nat) : gd (bubble p k d) j = if j = k - d then gd p k else if k - d < j ∧ j ≤ k then gd p (j - 1) else gd p j := by
  have e := getElem?_bubble hk d hd j
  by_cases q : j = k - d
  · rw [if_pos q] at e ⊢; exact gd_eq e
  · rw [if_neg q] at e ⊢
    by_cases q2 : k - d < j ∧ j ≤ k
    · rw [if_pos q2] at e ⊢; exact gd_eq e
    · rw [if_neg q2] at e ⊢; exact gd_eq e
theorem k_asc (L : Ltw lt) (hp : Pn n p) (h0 : 0 < n) : ∀ (f m : Nat), 1 ≤ m → Asc lt p m → KAll lt n (fun r => m ≤ r ∧ r ≤ m + f ∧ Asc lt p r ∧ (r = m + f ∨ lt (gd p r) (gd p (r - 1)) = true)) (kas_asc p f m)
  | 0, m, h1, ha => ⟨Nat.le_refl _, Nat.le_refl _, ha, .inl rfl⟩
  | f + 1, m, h1, ha => by
    refine ⟨hp.low h0 _, hp.low h0 _, ?_⟩
    cases c : lt (p.getD m 0) (p.getD (m - 1) 0) with
    | true => exact ⟨Nat.le_refl _, by exact o39, ha, .inr c⟩
    | false =>
      have ha' : Asc lt p (m + 1) := fun i j hij hj => by
        by_cases q : j = m
        · subst q
          by_cases q2 : i = j - 1
          · subst q2; exact c
          · exact L.tr _ _ _ (ha i (j - 1) (by exact o40 h1 hij q2) (by exact o41 h1)) c
        · exact ha i j hij (by exact o42 hj q)
      have ih := k_asc L hp h0 f (m + 1) (by exact o43 h1) ha'
      exact KAll.mono (fun r h => ⟨Nat.le_of_succ_le h.1, Nat.le_trans h.2.1 (Nat.le_of_eq (Nat.add_right_comm m 1 f)), h.2.2.1, h.2.2.2.imp (fun q => q.trans (Nat.add_right_comm m 1 f)) id⟩) _ ih
noncomputable def Tail (lt : Nat → Nat → Bool) (p : Array Nat) (m q : Nat) : Prop := ∀ i j, m ≤ i + q + 1 → i < m → m ≤ j + q + 1 → j < m → lt (gd p i) (gd p j) = false
theorem rev_dsc {m : Nat} (hz : m ≤ p.size) {q : Nat} (hq : q + 1 ≤ m) (hd : Dsc lt p m) (ht : Tail lt p m q) : Dsc lt (kas_rev p (m - (q + 1)) m) m := fun i j hij hj => by
  rw [rev_gd hz, rev_gd hz]
  clear hz
  by_cases a : m - (q + 1) ≤ i ∧ i < m
  · rw [if_pos a, if_pos (by exact o44 a hij hj)]
    exact ht _ _ (by exact o45 a hq hij hj) (by exact o46 a hij hj) (by exact o47 hq hj) (by exact o48 a hij hj)
  · rw [if_neg a]
    by_cases b : m - (q + 1) ≤ j ∧ j < m
    · rw [if_pos b]; exact hd _ _ (by exact o49 hq hij hj a) (by exact o50 b hj)
    · rw [if_neg b]; exact hd _ _ hij hj
theorem k_desc (L : Ltw lt) (h0 : 0 < n) : ∀ (f : Nat) (p : Array Nat) (m q : Nat), Pn n p → m + f ≤ n → q + 1 ≤ m → Dsc lt p m → Tail lt p m q → KAll lt n (fun r => Pn n r.1 ∧ m ≤ r.2.1 ∧ r.2.1 ≤ m + f ∧ r.2.2 + 1 ≤ r.2.1 ∧ Dsc lt r.1 r.2.1 ∧ Tail lt r.1 r.2.1 r.2.2) (kas_desc f p m q)
  | 0, p, m, q, hp, hm, hq, hd, ht => ⟨hp, Nat.le_refl _, Nat.le_refl _, hq, hd, ht⟩
  | f + 1, p, m, q, hp, hm, hq, hd, ht => by
    have hz := hp.size
    refine ⟨hp.low h0 _, hp.low h0 _, ?_⟩
    have mono : ∀ (t : KasT (Array Nat × Nat × Nat)), KAll lt n (fun r => Pn n r.1 ∧ m + 1 ≤ r.2.1 ∧ r.2.1 ≤ m + 1 + f ∧ r.2.2 + 1 ≤ r.2.1 ∧ Dsc lt r.1 r.2.1 ∧ Tail lt r.1 r.2.1 r.2.2) t → KAll lt n (fun r => Pn n r.1 ∧ m ≤ r.2.1 ∧ r.2.1 ≤ m + (f + 1) ∧ r.2.2 + 1 ≤ r.2.1 ∧ Dsc lt r.1 r.2.1 ∧ Tail lt r.1 r.2.1 r.2.2) t := KAll.mono fun r h => ⟨h.1, Nat.le_of_succ_le h.2.1, Nat.le_trans h.2.2.1 (Nat.le_of_eq (Nat.add_right_comm m 1 f)), h.2.2.2⟩
    have low : lt (gd p (m - 1)) (gd p m) = false → ∀ i, i < m → lt (gd p i) (gd p m) = false := fun c i hi => by
      by_cases e : i = m - 1
      · subst e; exact c
      · exact L.tr _ _ _ c (hd i (m - 1) (by exact o51 hi e) (by exact o52 hi))
    have one : ∀ (p : Array Nat), Dsc lt p (m + 1) → Tail lt p (m + 1) 0 := fun p hd i j h1 h2 h3 h4 => by
      have e : i = j := by exact o53 h1 h3 h2 h4
      refine e ▸ ?_
      cases c : lt (gd p i) (gd p i) with
      | false => rfl
      | true => rw [L.asym _ _ c] at c; exact nomatch c
    cases c : lt (p.getD m 0) (p.getD (m - 1) 0) with
    | true =>
      have c' := low (L.asym _ _ c)
      simp only [if_true]
      by_cases hq0 : q > 0
      · rw [if_pos hq0]
        have hd' : Dsc lt (kas_rev p (m - (q + 1)) m) (m + 1) := fun i j hij hj => by
          by_cases e : j = m
          · subst e
            rw [rev_gd (by exact o54 hm hz) j, if_neg (by exact o55), rev_gd (by exact o54 hm hz)]
            by_cases a : j - (q + 1) ≤ i ∧ i < j
            · rw [if_pos a]; exact c' _ (by exact o50 a hij)
            · rw [if_neg a]; exact c' _ (by omega)
          · exact rev_dsc (by exact o54 hm hz) hq hd ht i j hij (by exact o42 hj e)
        exact mono _ (k_desc L h0 f _ (m + 1) 0 (rev_pn hp _ _) (by exact o56 hm hz) (by exact o57) hd' (one _ hd'))
      · rw [if_neg hq0]
        have hd' : Dsc lt p (m + 1) := fun i j hij hj => by
          by_cases e : j = m
          · subst e; exact c' _ hij
          · exact hd i j hij (by exact o42 hj e)
        exact mono _ (k_desc L h0 f _ (m + 1) 0 hp (by exact o56 hm hz) (by exact o57) hd' (one _ hd'))
    | false =>
      simp only [Bool.false_eq_true, if_false]
      refine ⟨hp.low h0 _, hp.low h0 _, ?_⟩
      cases c2 : lt (p.getD (m - 1) 0) (p.getD m 0) with
      | true => exact ⟨hp, Nat.le_refl _, Nat.le_add_right _ _, hq, hd, ht⟩
      | false =>
        simp only [Bool.false_eq_true, if_false]
        have c' := low c2
        have hd' : Dsc lt p (m + 1) := fun i j hij hj => by
          by_cases e : j = m
          · subst e; exact c' _ hij
          · exact hd i j hij (by exact o42 hj e)
        refine mono _ (k_desc L h0 f _ (m + 1) (q + 1) hp (by exact o56 hm hz) (by exact o58 hq) hd' fun i j h1 h2 h3 h4 => ?_)
        by_cases e1 : i = m
        · by_cases e2 : j = m
          · rw [e1, e2]; exact one p hd' m m (by exact o59) (by exact o60) (by exact o59) (by exact o60)
          · rw [e1]
            have t1 := ht (m - 1) j (by exact o61 h1 h3 hq h4 e1) (by exact o62 h1 hq e1) (by exact o63 h3 e1) (by exact o64 h4 e1 e2)
            exact L.tr _ _ _ t1 c
        · by_cases e2 : j = m
          · rw [e2]; exact c' i (by exact o64 h2 e2 e1)
          · exact ht i j (by exact o65 h1) (by exact o66 h2 h4 e1 e2) (by exact o65 h3) (by exact o42 h4 e2)
noncomputable def Cnt (lt : Nat → Nat → Bool) (n : Nat) (r : Nat × Array Nat) : Prop := Pn n r.2 ∧ 1 ≤ r.1 ∧ r.1 ≤ n ∧ Asc lt r.2 r.1
theorem k_tail3 (L : Ltw lt) (hp : Pn n p) (m : Nat) (h1 : 1 ≤ m) (hm : m ≤ n) (hd : Dsc lt p m) : KAll lt n (Cnt lt n) (kas_tail3 m n p) := by
  have ha : Asc lt (kas_rev p 0 m) m := fun i j hij hj => by
    rw [rev_gd (by rw [hp.size]; exact hm), rev_gd (by rw [hp.size]; exact hm), if_pos (by exact o67 hj), if_pos (by exact o68 hij hj)]
    exact hd _ _ (by exact o69 hij hj) (by exact o70 hij hj)
  exact KAll.bind _ (k_asc L (rev_pn hp 0 m) (by exact o71 h1 hm) (n - m) m h1 ha) fun r hr => ⟨rev_pn hp 0 m, by have := hr.1; show 1 ≤ r; omega, by have := hr.2.1; show r ≤ n; omega, hr.2.2.1⟩
theorem k_descPart (L : Ltw lt) (hp : Pn n p) (m : Nat) (h1 : 1 ≤ m) (hm : m + 1 ≤ n) (hd : Dsc lt p (m + 1)) : KAll lt n (Cnt lt n) (kas_descPart m n p) := by
  have t0 : Tail lt p (m + 1) 0 := fun i j h1 h2 h3 h4 => by
    have e : i = j := by exact o53 h1 h3 h2 h4
    refine e ▸ ?_
    cases c : lt (gd p i) (gd p i) with
    | false => rfl
    | true => rw [L.asym _ _ c] at c; exact nomatch c
  refine KAll.bind _ (k_desc L (by exact o72 hm h1) (n - (m + 1)) p (m + 1) 0 hp (by exact o73 hm) (by exact o74 h1) hd t0) fun r hr => ?_
  refine aNd6 hr fun a1 a2 a3 a4 a5 a6 => ?_
  by_cases q : r.2.2 > 0
  · rw [if_pos q]
    exact k_tail3 L (rev_pn a1 _ _) _ (by exact o75 a4 q) (by exact o76 hm a3) (rev_dsc (by rw [a1.size]; exact o76 hm a3) a4 a5 a6)
  · rw [if_neg q]
    exact k_tail3 L a1 _ (by exact o77 a4 q) (by exact o76 hm a3) a5
theorem k_count (L : Ltw lt) (hp : Pn n p) (h0 : 0 < n) : KAll lt n (Cnt lt n) (kas_count n p) := by
  refine KAll.bind _ (k_asc L hp h0 (n - 1) 1 (Nat.le_refl _) fun i j hij hj => by exact (o78 hj hij).elim) fun m hm => ?_
  refine aNd4 hm fun a1 a2 a3 a4 => ?_
  by_cases e : (m == n) = true
  · rw [if_pos e]; exact ⟨hp, a1, by show m ≤ n; omega, a3⟩
  · rw [if_neg e]
    have e' : m ≠ n := fun q => e (by rw [q]; exact beq_self_eq_true _)
    have c : lt (gd p m) (gd p (m - 1)) = true := a4.resolve_left (by omega)
    have mn : m < n := by omega
    clear a2 a4 e e'
    have low : ∀ i, i < m → (∀ i j, i < m → j < m → lt (gd p i) (gd p j) = false) → lt (gd p i) (gd p m) = false := fun i hi al => L.tr _ _ _ (L.asym _ _ c) (al i (m - 1) hi (by exact o41 a1))
    by_cases q : m > 1
    · rw [if_pos q]
      refine ⟨hp.low h0 _, hp.low h0 _, ?_⟩
      cases c2 : lt (p.getD 0 0) (p.getD (m - 1) 0) with
      | true => exact ⟨hp, a1, Nat.le_of_lt mn, a3⟩
      | false =>
        simp only [Bool.false_eq_true, if_false]
        have top : ∀ i, i < m → lt (gd p (m - 1)) (gd p i) = false := fun i hi => by
          by_cases w : i = m - 1
          · subst w
            cases c3 : lt (gd p (m - 1)) (gd p (m - 1)) with
            | false => rfl
            | true => rw [L.asym _ _ c3] at c3; exact nomatch c3
          · exact a3 i (m - 1) (by exact o79 hi q w) (by exact o80 q)
        have bot : ∀ i, i < m → lt (gd p i) (gd p 0) = false := fun i hi => by
          by_cases w : i = 0
          · subst w
            cases c3 : lt (gd p 0) (gd p 0) with
            | false => rfl
            | true => rw [L.asym _ _ c3] at c3; cases c3
          · exact a3 0 i (by exact o81 w) hi
        have al : ∀ i j, i < m → j < m → lt (gd p i) (gd p j) = false := fun i j hi hj => L.tr _ _ _ (L.tr _ _ _ (top j hj) c2) (bot i hi)
        refine k_descPart L (rev_pn hp 0 m) m a1 mn fun i j hij hj => ?_
        have hz : m ≤ p.size := by rw [hp.size]; exact Nat.le_of_lt mn
        rw [rev_gd hz, rev_gd hz]
        clear hz mn h0 q a1
        by_cases w : j = m
        · rw [if_neg (show ¬ (0 ≤ j ∧ j < m) by exact o82 w), if_pos (show 0 ≤ i ∧ i < m by exact o83 hij w), w]
          exact low _ (by exact o84 hij w) al
        · rw [if_pos (show 0 ≤ j ∧ j < m by exact o85 hj w), if_pos (show 0 ≤ i ∧ i < m by exact o86 hj hij)]
          exact al _ _ (by exact o87 hj hij) (by exact o88 hj hij)
    · rw [if_neg q]
      have m1 : m = 1 := by exact o89 a1 q
      subst m1
      refine k_descPart L hp 1 (Nat.le_refl _) (by exact o90 mn) fun i j hij hj => ?_
      have : i = 0 ∧ j = 1 := by exact o91 hj hij
      rw [this.1, this.2]
      exact L.asym _ _ c
theorem k_place (L : Ltw lt) (hp : Pn n p) (h0 : 0 < n) {k : Nat} (ha : Asc lt p k) : ∀ (f l r : Nat), l ≤ r → r ≤ k → r ≤ l + f → (∀ i, i < l → lt (gd p k) (gd p i) = false) → (∀ i, r ≤ i → i < k → lt (gd p k) (gd p i) = true) →
    KAll lt n (fun q => q ≤ k ∧ (∀ i, i < q → lt (gd p k) (gd p i) = false) ∧ ∀ i, q ≤ i → i < k → lt (gd p k) (gd p i) = true) (kas_place p k f l r)
  | 0, l, r, h1, h2, h3, h4, h5 => ⟨by exact o92 h3 h1 h2, h4, fun i hi hk => h5 i (by exact o93 h3 h1 hi) hk⟩
  | f + 1, l, r, h1, h2, h3, h4, h5 => by
    unfold kas_place
    by_cases q : l ≥ r
    · rw [if_pos q]; exact ⟨by exact o94 h1 h2 q, h4, fun i hi hk => h5 i (by exact o95 h1 hi q) hk⟩
    · rw [if_neg q]
      refine ⟨hp.low h0 _, hp.low h0 _, ?_⟩
      cases c : lt (p.getD k 0) (p.getD ((l + r) / 2) 0) with
      | true =>
        simp only [if_true]
        refine k_place L hp h0 ha f l _ (by exact o96 q) (by exact o97 h2 q) (by exact o98 h3) h4 fun i hi hk => ?_
        by_cases e : i = (l + r) / 2
        · rw [e]; exact c
        · cases c2 : lt (gd p k) (gd p i) with
          | true => rfl
          | false =>
            have := L.tr _ _ _ (ha ((l + r) / 2) i (by exact o99 hi e) hk) c2
            rw [show lt (gd p k) (gd p ((l + r) / 2)) = true from c] at this
            exact nomatch this
      | false =>
        simp only [Bool.false_eq_true, if_false]
        refine k_place L hp h0 ha f _ r (by exact o100 q) h2 (by exact o101 h3) (fun i hi => ?_) h5
        by_cases e : i = (l + r) / 2
        · rw [e]; exact c
        · exact L.tr _ _ _ (ha i ((l + r) / 2) (by exact o102 hi e) (by exact o103 h2 q)) c
theorem k_bin (L : Ltw lt) (h0 : 0 < n) : ∀ (f : Nat) (p : Array Nat) (k : Nat), Pn n p → k + f = n → Asc lt p k → KAll lt n (fun q => Pn n q ∧ Asc lt q n) (kas_bin f p k)
  | 0, p, k, hp, hk, ha => by
    have : k = n := by omega
    exact ⟨hp, this ▸ ha⟩
  | f + 1, p, k, hp, hk, ha => by
    refine KAll.bind _ (k_place L hp h0 ha k 0 k (Nat.zero_le _) (Nat.le_refl _) (by exact o104) (fun i hi => by exact (o105 hi).elim) fun i h1 h2 => by exact (o106 h2 h1).elim) fun l hl => ?_
    refine aNd3 hl fun b1 b2 b3 => ?_
    refine k_bin L h0 f _ (k + 1) (bub_pn hp _ _) (by exact o107 hk) fun i j hij hj => ?_
    have hz : k < p.size := by rw [hp.size]; exact o108 hk
    rw [bub_gd hz (by exact o109 b1), bub_gd hz (by exact o109 b1)]
    have e : k - (k - l) = l := by exact o110 b1
    rw [e]
    clear e hz h0 hk
    by_cases x1 : i = l
    · rw [if_pos x1, if_neg (by exact o111 hij x1), if_pos (by exact o112 hj hij x1)]
      exact L.asym _ _ (b3 (j - 1) (by exact o113 hij x1) (by exact o114 hj hij))
    · rw [if_neg x1]
      by_cases x2 : j = l
      · rw [if_pos x2, if_neg (by exact o115 hij x2)]
        exact b2 i (by exact o116 hij x2)
      · rw [if_neg x2]
        by_cases y1 : l < i ∧ i ≤ k
        · rw [if_pos y1, if_pos (by exact o117 y1 hj hij)]; exact ha _ _ (by exact o118 y1 hij) (by exact o114 hj hij)
        · rw [if_neg y1]
          by_cases y2 : l < j ∧ j ≤ k
          · rw [if_pos y2]; exact ha _ _ (by exact o119 y2 hj hij y1 x1 x2) (by exact o114 hj hij)
          · rw [if_neg y2]; exact ha _ _ hij (by exact o120 hj hij b1 y1 y2 x2)
theorem k_sort (L : Ltw lt) (h0 : 0 < n) : KAll lt n (fun q => Pn n q ∧ Asc lt q n) (kas_sort n) := by
  refine KAll.bind _ (k_count L (Array.Perm.refl _) h0) fun r hr => ?_
  refine aNd4 hr fun a1 a2 a3 a4 => ?_
  by_cases q : r.1 < n
  · rw [if_pos q]
    have e : max r.1 1 = r.1 := by exact o121 a2
    rw [e]
    exact k_bin L h0 _ _ _ a1 (by exact o122 e q) a4
  · rw [if_neg q]
    have e : r.1 = n := by exact o123 a3 q
    exact ⟨a1, e ▸ a4⟩
end
end Mine
-- part MSort
namespace Mine
open PySem PySem.W PyProof.Rows
section
variable {cx : Cx} {A : Around} {P : Amb} {xs : List Val} {ρ : Rho} {H : Hp} {s : Shared}
theorem few_pick (vs : List Value) (h : vs.length < 2) : (vs.toArray.zip vs.toArray).map (·.2) = List.toArray ((List.range vs.length).toArray.toList.map fun i => vs.getD i Value.none) := by
  apply Array.toList_inj.mp
  cases vs with
  | nil => simp
  | cons v l =>
    cases l with
    | nil => simp [List.range_succ]
    | cons _ _ => exact absurd h (by simp)
set_option backward.match.sparseCases true in
theorem sort_at {prog : Program} {w : World} {a : Addr} {vs : List Value} {n : Nat} {P : PySem.Fin → Shared → Prop} {E : Value → Shared → Prop} {G : Array Nat → Prop} (ho : s.heap.get? a = some (listO vs n)) (h64 : vs.length < 64)
    (small : vs.length < 2 → G (List.range vs.length).toArray)
    (ask : ∀ h', (∀ b o, b ≠ a → s.heap.get? b = some o → h'.get? b = some o) → 2 ≤ vs.length → ∀ (Q : SortKind → Shared → Prop), (∀ κ, (∀ (R : Array Nat → Shared → Prop), (∀ p, G p → R p { s with heap := h' }) → (kas_sort vs.length).kasWp (kas_ask prog w A κ vs) R { s with heap := h' }) → Q κ { s with heap := h' }) → wpAny (model prog w) A (keyKind' vs.toArray) Q E { s with heap := h' })
    (k : ∀ h' p c, G p → (∀ b o, b ≠ a → s.heap.get? b = some o → h'.get? b = some o) → h'.get? a = some (listO (p.toList.map fun i => vs.getD i .none) c) → P (.done (.ret .none)) { s with heap := h' }) :
    wpAny (model prog w) A (Builtin.«list.sort» ⟨[.ref a], []⟩) P E s := by
  have ha : a < s.heap.objs.size := Heap.lt_size ho
  have s1 := Heap.SameBut.update s.heap a (Obj.mapSeq fun _ => (#[] : Array Value))
  obtain ⟨e1, ho1⟩ : ∃ e1, (s.heap.update a (Obj.mapSeq fun _ => (#[] : Array Value))).get? a = some (listO [] e1) := ⟨_, get?_update_seq ho fun _ => #[]⟩
  have kp : ∀ b o, b ≠ a → s.heap.get? b = some o → (((s.heap.update a (Obj.mapSeq fun _ => (#[] : Array Value))).push (seqObj "tuple" vs.toArray 0)).push (seqObj "list" #[] 0)).get? b = some o := fun b o nb e => Heap.get?_push_of_some _ (Heap.get?_push_of_some _ (s1.extBut b o nb e))
  have g1 : (((s.heap.update a (Obj.mapSeq fun _ => (#[] : Array Value))).push (seqObj "tuple" vs.toArray 0)).push (seqObj "list" #[] 0)).get? a = some (listO [] e1) := Heap.get?_push_of_some _ (Heap.get?_push_of_some _ ho1)
  generalize hh : ((s.heap.update a (Obj.mapSeq fun _ => (#[] : Array Value))).push (seqObj "tuple" vs.toArray 0)).push (seqObj "list" #[] 0) = h1 at kp g1
  have last : ∀ (p : Array Nat) (st' : SortSt), G p → p.size = vs.length → (arrOf st').map (·.2) = List.toArray (p.toList.map fun i => vs.getD i Value.none) → failedOf st' = none → wpAny (model prog w) A (do
      let sorted := (arrOf st').map (·.2)
      let touched := (← seqEpoch a) != e1
      Builtin.List.listUpdate (.ref a) fun _ => sorted
      if let some e := failedOf st' then rule "list.sort.comparison-raised"; throw e
      if touched then rule "list.sort.modified"; raiseError "ValueError" "list modified during sort"
      ret .none) P E { s with heap := h1 } := by
    intro p st' hG hp hout hf
    rw [hout]
    dsimp only
    refine wpAny_bind (seqEpoch_at g1 rfl ?_)
    have hsz : (List.toArray (p.toList.map fun i => vs.getD i Value.none)).size = vs.length := by rw [List.size_toArray, List.length_map, Array.length_toList, hp]
    refine wpAny_bind (listUpdate_at g1 rfl ?_ (Nat.zero_le _) (Nat.le_trans (Nat.le_of_eq hsz) (by rw [sizeLine_eq]; exact o124 h64 hp hsz)))
    rw [hf]
    simp only [bne_self_eq_false, Bool.false_eq_true, if_false]
    refine wpAny_pure (k _ p _ hG (fun b o nb e => (Heap.get?_update_other _ _ (Ne.symm nb)).trans (kp b o nb e)) (get?_update_seq g1 fun _ => List.toArray (p.toList.map fun i => vs.getD i Value.none)))
  rw [list_sort_plain]
  refine wpAny_bind (listItems_at ho rfl ?_)
  refine wpAny_bind (listUpdate_at ho rfl ?_ (by rw [List.size_toArray, sizeLine_eq]; exact o125 h64) (Nat.zero_le _))
  refine wpAny_bind (seqEpoch_at ho1 rfl ?_)
  refine wpAny_bind (wpAny_newTuple ?_ (by show vs.length ≤ _; rw [sizeLine_eq]; exact o125 h64))
  refine wpAny_bind (wpAny_newList ?_ (Nat.zero_le _))
  refine wpAny_holding ?_
  show wpAny (model prog w) A _ P E { s with heap := ((s.heap.update a (Obj.mapSeq fun _ => (#[] : Array Value))).push (seqObj "tuple" vs.toArray 0)).push (seqObj "list" #[] 0) }
  rw [hh]
  dsimp only
  by_cases h2 : vs.toArray.size < 2
  · rw [if_pos h2, if_pos h2]
    rw [List.size_toArray] at h2
    refine wpAny_bind (wpAny_pure ?_)
    refine wpAny_bind (wpAny_pure ?_)
    refine last (List.range vs.length).toArray _ (small h2) (by simp) ?_ rfl
    exact few_pick vs h2
  · rw [if_neg h2, if_neg h2]
    have h2' : 2 ≤ vs.length := by rw [List.size_toArray] at h2; exact o126 h64 h2
    refine wpAny_bind (ask h1 kp h2' _ fun κ hk => ?_)
    refine wpAny_bind (wpAny_mono (kat_run (Q := fun st' s' => s' = { s with heap := h1 } ∧ ∃ p : Array Nat, p.size = vs.length ∧ G p ∧ arrOf st' = p.map (kas_item (vs.toArray.zip vs.toArray)) ∧ failedOf st' = none) (G := fun p s' => s' = { s with heap := h1 } ∧ G p) rfl h2' h64
      (fun p' st' s' a1 a2 a3 a4 => ⟨a4.1, p', a1, a4.2, a2, a3⟩) (hk _ fun p hp => ⟨rfl, hp⟩)) ?_ fun _ _ e => e)
    rintro ⟨⟨⟩, st'⟩ s' ⟨rfl, p, hp, hG, har, hf⟩
    exact last p st' hG hp (kat_snds rfl har) hf
theorem kat_lts (R : Rel cx H ρ s) {Q : Bool → Shared → Prop} {k : Nat} (hk : A.units + 20 + k < cLine) {r : Bool} (hQ : Q r s) (ms : List Val) : ∀ (ks : List Val) (vs ws : List Value) (i : Nat), VRs cx ρ s.heap ms vs → VRs cx ρ s.heap ks ws → lts (pyEq []) intLt ms ks = some r →
    (i = 0 → ∃ x y ms' ks', ms = .int x :: ms' ∧ ks = .int y :: ks') → KatLex cx.prog cx.w A true (decide (i + ms.length < i + ks.length)) Q (vs.zip ws) i s := by
  induction ms with
  | nil =>
    intro ks vs ws i q1 q2 h _
    cases q1
    cases ks with
    | nil =>
      cases h
      rw [decide_eq_false (Nat.lt_irrefl _)]; exact hQ
    | cons y ks =>
      cases h
      have : decide (i + ([] : List Val).length < i + (y :: ks).length) = true := decide_eq_true (Nat.lt_add_of_pos_right (Nat.succ_pos _))
      rw [this]; exact hQ
  | cons x ms ih =>
    intro ks vs ws i q1 q2 h hi
    cases q1 with
    | cons a1 q1 =>
      cases q2 with
      | nil =>
        cases h
        have : decide (i + (x :: ms).length < i + ([] : List Val).length) = false := decide_eq_false (Nat.not_lt.mpr (Nat.le_add_right i _))
        rw [this]; exact hQ
      | @cons y _ ks _ a2 q2 =>
        refine kat_cons ?_
        rcases lts_cons h with ⟨he, hl⟩ | ⟨he, hl⟩
        · refine wp_eqBool R a1 a2 (eq_nil he) (by exact o127 hk) ?_
          refine kat_yes ?_
          have := ih ks _ _ (i + 1) q1 q2 hl (fun q => absurd q (Nat.succ_ne_zero _))
          rw [Nat.add_right_comm i 1, Nat.add_right_comm i 1] at this
          exact this
        · refine wp_eqBool R a1 a2 (eq_nil he) (by exact o127 hk) ?_
          refine kat_no ?_
          by_cases q : i = 0
          · refine ex4 (hi q) fun u v _ _ zz => aNd2 zz fun e1 e2 => ?_
            cases e1; cases e2
            obtain ⟨t, hr0⟩ := a1.int_inv; refine Eq.symm hr0 ▸ ?_
            obtain ⟨t', hr1⟩ := a2.int_inv; refine Eq.symm hr1 ▸ ?_
            refine Eq.symm q ▸ ?_
            have hr : r = decide (u < v) := (Option.some.inj hl).symm
            exact oneLt_int (by rw [← hr]; exact hQ)
          · rw [show (true && i == 0) = false by simp [q]]
            exact kat_one _ _ (wp_ltI a1 a2 hl hQ)
theorem VRs.getD {h : Heap} {ms : List Val} {vs : List Value} (r : VRs cx ρ h ms vs) {i : Nat} (hi : i < ms.length) : VR cx ρ h (ms.getD i .none) (vs.getD i .none) := by
  have e : ms[i]? = some ms[i] := List.getElem?_eq_getElem hi
  refine ex1 (r.get e) fun v zz => aNd2 zz fun hv x => ?_
  rw [List.getD_eq_getElem?_getD, List.getD_eq_getElem?_getD, e, hv]
  exact x
theorem tups_of {h : Heap} : ∀ {ms : List Val} {vs : List Value}, VRs cx ρ h ms vs → (∀ x ∈ ms, ∃ i r, x = .tup (.int i :: r)) → ∃ fs, KatTups h vs fs ∧ fs.length = vs.length ∧ ∀ f ∈ fs, ∃ i t, f = .int i t
  | _, _, .nil, _ => ⟨[], trivial, rfl, fun f hf => by cases hf⟩
  | _, _, .cons a r, hm => by
    refine hideG fun G kG => ?_
    refine ex1 (tups_of r fun x hx => hm x (.tail _ hx)) fun fs zz => aNd3 zz fun h1 h2 h3 => ?_
    refine ex2 (hm _ (.head _)) fun i q zr2 => ?_; subst zr2
    refine ex3 a.tup_inv fun p vs n zz => aNd3 zz fun zr3 g r => ?_; subst zr3
    refine kG ?_
    cases r with
    | cons b r =>
      obtain ⟨t, rfl⟩ := b.int_inv
      refine ⟨.int i t :: fs, KatTups.cons g rfl rfl (by simp) h1, by simp [h2], fun f hf => ?_⟩
      cases hf with
      | head => exact ⟨i, t, rfl⟩
      | tail _ hf => exact h3 f hf
theorem ints_of {h : Heap} : ∀ {ms : List Val} {vs : List Value}, VRs cx ρ h ms vs → (∀ x ∈ ms, ∃ i, x = .int i) → ∃ ns, IntsAre vs ns
  | _, _, .nil, _ => ⟨[], .nil⟩
  | _, _, .cons a r, hm => by
    obtain ⟨ns, h1⟩ := ints_of r fun x hx => hm x (.tail _ hx)
    obtain ⟨i, rfl⟩ := hm _ (.head _)
    obtain ⟨t, rfl⟩ := a.int_inv
    exact ⟨i :: ns, .cons i t h1⟩
noncomputable def ix (n i : Nat) : Nat := if i < n then i else 0
theorem ix_lt {n : Nat} (h0 : 0 < n) (i : Nat) : ix n i < n := by unfold ix; split <;> omega
theorem ltw_of {lt : Val → Val → Bool} (O : Order xs lt) (h0 : 0 < xs.length) : Ltw fun i j => lt (xs.getD (ix xs.length i) .none) (xs.getD (ix xs.length j) .none) := by
  have m : ∀ i, xs.getD (ix xs.length i) .none ∈ xs := fun i => by
    rw [List.getD_eq_getElem?_getD, List.getElem?_eq_getElem (ix_lt h0 i)]
    exact List.getElem_mem _
  exact ⟨fun i j => O.asym _ (m i) _ (m j), fun i j k => O.tr _ (m i) _ (m j) _ (m k)⟩
theorem vrs_pick {h : Heap} {ms : List Val} {vs : List Value} (r : VRs cx ρ h ms vs) : ∀ (l : List Nat), (∀ i ∈ l, i < ms.length) → VRs cx ρ h (l.map fun i => ms.getD i .none) (l.map fun i => vs.getD i .none)
  | [], _ => .nil
  | i :: l, hl => .cons (r.getD (hl i (.head _))) (vrs_pick r l fun j hj => hl j (.tail _ hj))
theorem sorted_pick {lt : Val → Val → Bool} (O : Order xs lt) {p : Array Nat} (hp : Pn xs.length p) (ha : Asc (fun i j => lt (xs.getD (ix xs.length i) .none) (xs.getD (ix xs.length j) .none)) p xs.length) : IsSorted xs (p.toList.map fun i => xs.getD i .none) := by
  have hp' := Array.perm_iff_toList_perm.mp hp
  have e : (List.range xs.length).map (fun i => xs.getD i Val.none) = xs := by
    apply List.ext_getElem?
    intro k
    rw [List.getElem?_map]
    by_cases q : k < xs.length
    · rw [List.getElem?_range q]
      simp [q]
    · rw [List.getElem?_eq_none (by simpa using q), List.getElem?_eq_none (by simpa using q)]; rfl
  have lo : ∀ i ∈ p.toList, i < xs.length := fun i hi => by
    have := hp'.mem_iff.mp hi
    simpa using this
  refine ⟨?_, ?_⟩
  · have := hp'.map (fun i => xs.getD i Val.none)
    rwa [show (List.range xs.length).toArray.toList = List.range xs.length from rfl, e] at this
  · rw [List.pairwise_map]
    rw [List.pairwise_iff_getElem]
    intro i j hi hj hij
    have zi : i < p.size := by simpa using hi
    have zj : j < p.size := by simpa using hj
    have hs := hp.size
    have a := ha i j hij (by exact o116 zj hs)
    have ei : gd p i = p.toList[i] := by simp [gd, Array.getD, zi]
    have ej : gd p j = p.toList[j] := by simp [gd, Array.getD, zj]
    dsimp only at a
    rw [ei, ej] at a
    have li := lo _ (List.getElem_mem hi)
    have lj := lo _ (List.getElem_mem hj)
    unfold ix at a
    rw [if_pos li, if_pos lj] at a
    have m : ∀ k, k < xs.length → xs.getD k .none ∈ xs := fun k hk => by
      rw [List.getD_eq_getElem?_getD, List.getElem?_eq_getElem hk]
      exact List.getElem_mem _
    rw [O.is _ (m _ lj) _ (m _ li), a]
set_option tactic.hygienic true in
theorem sim_sorted {a : Val} {v : Value} (hu : A.units + 100 < cLine) (h1 : ∀ ρ h, P.P ρ h → VR cx ρ h a v) : Sim cx A P (call (.builtin "sorted") [v]) (bfV .sorted [a]) (Amb.vr cx) := by
  intro H ρ s R p
  have x := h1 _ _ p
  cases x with
  | @loc l q hq =>
    show SimAt cx A (match H[l]? with
      | some (.list xs) => (match sortOf xs with
        | some ys => M.alloc (.list ys) H
        | none => .bad)
      | _ => .bad) _ _ ρ s
    split
    · rename_i xs hl
      split
      · rename_i ys hs
        refine hideG fun G kG => ?_
        obtain ⟨⟨few, kind, lt, O⟩, srt⟩ := sortOf_some hs
        refine ex2 (R.listAt hl hq) fun vs n zz => aNd4 zz fun _ g r z => ?_
        refine kG ?_
        have len := r.length
        have few' : vs.length < 64 := by exact o128 few len
        refine (show wpAny _ _ _ _ _ _ from ?_)
        refine Calls.call_function_entry kind_sorted plain_sorted entry_sorted (args_sorted1 _) ?_
        unfold Builtin.«sorted»
        refine wpAny_bind (m := checkCount "sorted" 1 1 _) (wpAny_pure ?_)
        refine wpAny_bind (collect_list (vs := vs) ⟨_, g, rfl, n, rfl⟩ ?_ (by rw [sizeLine_eq]; exact o129 few len))
        refine wpAny_bind (wpAny_newList ?_ (by rw [sizeLine_eq]; exact o129 few len))
        have hsz : ((s.heap.push (seqObj "list" #[] 0)).update s.heap.objs.size (Obj.mapSeq (· ++ vs.toArray))).objs.size = s.heap.objs.size + 1 := by rw [Heap.size_update, size_push']
        have hoL : (((s.heap.push (seqObj "list" #[] 0)).update s.heap.objs.size (Obj.mapSeq (· ++ vs.toArray))).push (seqObj "list" vs.toArray 0)).get? (s.heap.objs.size + 1) = some (listO vs 0) := by
          rw [← hsz]; exact Heap.get?_push_size _ rfl
        have keep : ∀ b o, s.heap.get? b = some o → (((s.heap.push (seqObj "list" #[] 0)).update s.heap.objs.size (Obj.mapSeq (· ++ vs.toArray))).push (seqObj "list" vs.toArray 0)).get? b = some o := fun b o q =>
          Heap.get?_push_of_some _ ((Heap.get?_update_other _ _ (Nat.ne_of_gt (Heap.lt_size q))).trans (Heap.get?_push_of_some _ q))
        show wpAny _ _ _ _ _ { s with heap := ((s.heap.push (seqObj "list" #[] 0)).update s.heap.objs.size (Obj.mapSeq (· ++ vs.toArray))).push (seqObj "list" vs.toArray 0) }
        rw [hsz]
        generalize ((s.heap.push (seqObj "list" #[] 0)).update s.heap.objs.size (Obj.mapSeq (· ++ vs.toArray))).push (seqObj "list" vs.toArray 0) = h0 at hoL keep
        have fr : s.heap.get? (s.heap.objs.size + 1) = none := fresh_le (Nat.le_succ _)
        have ne : ∀ {b : Addr} {o : Obj}, s.heap.get? b = some o → b ≠ s.heap.objs.size + 1 := fun {b o} e w => by rw [w, fr] at e; exact nomatch e
        refine wpAny_bind (wpAny_holding (wpAny_call_entry slot_list_sort ⟨_, hoL, rfl⟩ entry_list_sort ?body (args_list_sort _)))
        refine sort_at (s := { s with heap := h0 }) (G := fun p => Pn xs.length p ∧ Asc (fun i j => lt (xs.getD (ix xs.length i) .none) (xs.getD (ix xs.length j) .none)) p xs.length) hoL few' (fun h2 => ?_) (fun h' kp h2 Q kQ => ?_) fun h' p c hG kp e => ?_
        · rw [← len]
          exact ⟨Array.Perm.refl _, fun i j hij hj => by exact (o130 h2 few hij hj len).elim⟩
        · have kp' : ∀ b o, s.heap.get? b = some o → h'.get? b = some o := fun b o e => kp b o (ne e) (keep b o e)
          have R' : Rel cx H ρ { s with heap := h' } := R.more (tk := s.toks) kp'
          have r' : VRs cx ρ h' xs vs := r.step (Full.more kp').step
          have L := ltw_of O (by exact o131 h2 few len)
          have hu2 : A.in1.in1.units + 30 < cLine := by simp only [Around.in1_units]; exact o132 hu
          have val : ∀ i, i < xs.length → xs.getD (ix xs.length i) Val.none = xs.getD i .none ∧ xs.getD i .none ∈ xs := fun i hi => by
            refine ⟨by unfold ix; rw [if_pos hi], ?_⟩
            rw [List.getD_eq_getElem?_getD, List.getElem?_eq_getElem hi]
            exact List.getElem_mem _
          · refine hideG fun G kG => ?_
            refine ex1 (tups_of r' kind) fun fs zz => aNd3 zz fun hT hl2 hfs => ?_
            refine kG ?_
            refine kat_kind (s := { s with heap := h' }) (T := .type "int") hT (by exact o133 h2 few len hl2) (fun f hf => ?_) rfl ?_
            · refine ex2 (hfs f hf) fun i t zr2 => ?_; subst zr2
              exact .now
            · skip
              refine kQ _ fun R2 hR2 => ?_
              rw [← len]
              refine KAll.wp (lt := fun i j => lt (xs.getD (ix xs.length i) .none) (xs.getD (ix xs.length j) .none)) (fun i j C hi hj hC => ?_) hR2 _ (k_sort L (by exact o134 h2 few len hl2))
              obtain ⟨e1, m1⟩ := val i hi
              obtain ⟨e2, m2⟩ := val j hj
              dsimp only at hC
              rw [e1, e2] at hC
              have w1 := r'.getD hi
              have w2 := r'.getD hj
              have is := O.is _ m1 _ m2
              refine hideG fun G kG => ?_
              refine ex2 (kind _ m1) fun x ms hx => ?_
              refine ex2 (kind _ m2) fun y ks hy => ?_
              refine kG ?_
              rw [hx] at w1 is hC
              rw [hy] at w2 is hC
              refine hideG fun G kG => ?_
              refine ex3 w1.tup_inv fun p1 us n1 zz => aNd3 zz fun ht g1 q1 => ?_
              refine ex3 w2.tup_inv fun p2 ws n2 zz => aNd3 zz fun ht' g2 q2 => ?_
              refine kG ?_
              show wpAny _ _ (keyLt' (tuples' true) (vs.getD i .none) (vs.getD j .none)) _ _ _
              rw [ht, ht']
              refine kat_lt (s := { s with heap := h' }) g1 rfl g2 rfl ?_
              have kl := kat_lts (A := A.in1.in1) R' (k := 5) (by exact o135 hu2) hC _ _ _ _ 0 q1 q2 is (fun _ => ⟨x, y, ms, ks, rfl, rfl⟩)
              rw [Nat.zero_add, Nat.zero_add, q1.length, q2.length] at kl
              simpa using kl
        · refine ⟨_, rfl, wpAny_pure ⟨_, rfl, ?_⟩⟩
          have kp' : ∀ b o, s.heap.get? b = some o → h'.get? b = some o := fun b o e => kp b o (ne e) (keep b o e)
          have eq : ys = p.toList.map fun i => xs.getD i .none := Option.some.inj (hs.symm.trans (sortOf_eq ⟨few, kind, lt, O⟩ (sorted_pick O hG.1 hG.2)))
          have lo : ∀ i ∈ p.toList, i < xs.length := fun i hi => by
            have := (Array.perm_iff_toList_perm.mp hG.1).mem_iff.mp hi
            simpa using this
          have yl : ys.length ≤ sizeLine := by rw [srt.1.length_eq]; omega
          obtain ⟨F, R'⟩ := R.alloc (tk := s.toks) (o := .list ys) (p := (s.heap.objs.size + 1, s.heap.objs.size + 1)) kp' ⟨fr, fr⟩
            (.list e (by rw [eq]; exact vrs_pick (r.step (Full.alloc kp' ⟨fr, fr⟩).step) _ lo) yl)
          refine ⟨_, F, R', ?_⟩
          rw [R.len]
          exact VR.loc (p := (s.heap.objs.size + 1, s.heap.objs.size + 1)) (by rw [List.getElem?_append_right (Nat.le_refl _)]; simp)
      · trivial
    · trivial
  | _ => trivial
end
end Mine
-- part MBool
namespace Mine
open PySem
theorem bnd_assoc {α β γ : Type} (m : M α) (f : α → M β) (g : β → M γ) : (m.bnd f).bnd g = m.bnd fun x => (f x).bnd g := by
  funext H
  unfold M.bnd
  cases m H <;> rfl
section
variable {α β : Type} {cx : Cx} {A : Around} {P : Amb} {t : Sem α} {m : M β} {V : β → α → Amb}
theorem Sim.rule {tag : String} {k : Unit → Sem α} (x : Sim cx A P (k ()) m V) : Sim cx A P (rule tag >>= k) m V := x.pre fun _ _ _ h => wpAny_bind (wpAny_rule h)
theorem Sim.relse {vs keep : List Value} {k : Unit → Sem α} (x : Sim cx A P (k ()) m V) : Sim cx A P (release vs keep >>= k) m V := x.pre fun _ _ _ h => wpAny_bind (wpAny_release h)
theorem Sim.oper {t : Sem Value} {V : β → Value → Amb} {vs : List Value} (x : Sim cx A P t m V) : Sim cx A P (operate vs t) m V := x.pre fun _ _ _ h => fun Γ p hΓ => by
  rw [Sem.wp_operate]; exact h Γ p hΓ
theorem Sim.of_eq {t' : Sem α} (e : t' = t) (x : Sim cx A P t m V) : Sim cx A P t' m V := e ▸ x
theorem Sim.of_m {m' : M β} (e : m' = m) (x : Sim cx A P t m V) : Sim cx A P t m' V := e ▸ x
noncomputable abbrev BV : Bool → Bool → Amb := fun b b' => Amb.prop (b' = b)
end
section
variable {cx : Cx} {A : Around} {P : Amb} {env : Env} {Φ : Funs} {Γ : Env'}
structure EOk (cx : Cx) (A : Around) (P : Amb) (Φ : Funs) (env : Env) (Γ : Env') (m : ME) (e : Expr) : Prop where
  val : Sim cx A P (eval e env) (evalE cx.T Φ m Γ) (Amb.vr cx)
  tru : Sim cx A P (isTrue e env (eval e env)) ((evalE cx.T Φ m Γ).bnd truth) BV
theorem sim_truthyA {a : Val} {v : Value} : Sim cx A (P.and (Amb.vr cx a v)) (truthy v) (truth a) BV := sim_truthy fun _ _ p => p.2
theorem EOk.of {m : ME} {e : Expr} (x : Sim cx A P (eval e env) (evalE cx.T Φ m Γ) (Amb.vr cx)) (h : isTrue e env (eval e env) = (do let v ← eval e env; standAt e.pos; holding [v] (truthy v))) : EOk cx A P Φ env Γ m e :=
  ⟨x, Sim.of_eq h (x.bind fun b a => Sim.stand (Sim.holding sim_truthyA))⟩
theorem Sim.and1 {α β : Type} {t : Sem α} {m : M β} {V : β → α → Amb} {Q : Amb} (x : Sim cx A P t m V) : Sim cx A (P.and Q) t m V := x.weak fun _ _ p => p.1
theorem eok_bin {op : BOp} {o : Operator} {a b : ME} {l r : Expr} {pos : Pos} (ho : opOk op o = true) (x : EOk cx A P Φ env Γ a l) (y : EOk cx A P Φ env Γ b r) : EOk cx A P Φ env Γ (.bin op a b) (.BinOp l o r pos) := by
  refine EOk.of ?_ rfl
  exact x.val.bind fun x1 v => (Sim.holding y.val.and1).bind fun y1 w => Sim.stand (Sim.oper (sim_bin ho (fun _ _ p => p.1.2) fun _ _ p => p.2))
theorem eok_neg {a : ME} {l : Expr} {pos : Pos} (x : EOk cx A P Φ env Γ a l) : EOk cx A P Φ env Γ (.neg a) (.UnaryOp .USub l pos) := by
  refine EOk.of ?_ rfl
  exact x.val.bind fun x1 v => Sim.stand (Sim.holding (sim_neg fun _ _ p => p.2))
theorem eok_not {a : ME} {l : Expr} {pos : Pos} (x : EOk cx A P Φ env Γ a l) : EOk cx A P Φ env Γ (.not a) (.UnaryOp .Not l pos) := by
  refine ⟨?_, ?_⟩
  · skip
    exact x.val.bind fun x1 v => Sim.stand (Sim.holding (sim_not fun _ _ p => p.2))
  · rw [arm_isTrue_UnaryOp, ev_not]
    refine Sim.of_m (m := ((evalE cx.T Φ a Γ).bnd truth).bnd fun b => M.ret (!b)) ?_ (x.tru.bind fun b b' => Sim.ret fun ρ h p => ?_)
    · rw [bnd_assoc, bnd_assoc]
      congr 1; funext x1
      rw [bnd_assoc]
      congr 1
    · have : b' = b := p.2
      show (!b') = !b
      rw [this]
theorem bnd_ret {α : Type} (m : M α) : (m.bnd fun b => M.ret b) = m := by
  funext H
  unfold M.bnd
  cases m H <;> rfl
noncomputable def EOks (cx : Cx) (A : Around) (P : Amb) (Φ : Funs) (env : Env) (Γ : Env') (op : BoolOp) (pos : Pos) (m : ME) (ys : List Expr) : Prop :=
  Sim cx A P (boolOp pos op (evalEach ys env)) (evalE cx.T Φ m Γ) (Amb.vr cx) ∧ Sim cx A P (allTrue op ys env) ((evalE cx.T Φ m Γ).bnd truth) BV
theorem EOks.one {op : BoolOp} {pos : Pos} {m : ME} {y : Expr} (x : EOk cx A P Φ env Γ m y) : EOks cx A P Φ env Γ op pos m [y] := by
  refine ⟨x.val, ?_⟩
  refine Sim.of_m (bnd_ret _).symm (x.tru.bind fun b b' => ?_)
  intro H ρ s R p
  have e : b' = b := p.2
  subst e
  cases op <;> cases b' <;> exact wpAny_pure ⟨ρ, Full.refl _ _, R, rfl⟩
theorem EOks.more {op : BoolOp} {pos : Pos} {m : ME} {y : Expr} {rest : List Expr} (x : EOk cx A P Φ env Γ m (.BoolOp op (y :: rest) pos)) : EOks cx A P Φ env Γ op pos m (y :: rest) := ⟨x.val, x.tru⟩
theorem sim_truthyV {a : Val} {v : Value} : Sim cx A (P.and (Amb.vr cx a v)) (truthy v) (truth a) (fun b b' => Amb.prop (b' = b ∧ v = .bool b)) := by
  intro H ρ s R p
  have x : VR cx ρ s.heap a v := p.2
  cases x with
  | bool b => exact simAt_pure R fun Q E k => wpAny_truthy_bool (k _ s.toks ⟨rfl, rfl⟩)
  | _ => trivial
set_option backward.match.sparseCases true in
theorem eok_and {a b : ME} {x y : Expr} {rest : List Expr} {pos : Pos} (hx : EOk cx A P Φ env Γ a x) (hy : EOks cx A P Φ env Γ .And pos b (y :: rest)) : EOk cx A P Φ env Γ (.and a b) (.BoolOp .And (x :: y :: rest) pos) := by
  refine ⟨?_, ?_⟩
  · skip
    refine hx.val.bind (f := fun v => do
      standAt pos
      let t ← holding [v] (truthy v)
      match BoolOp.And, t with
      | .And, false | .Or, true => pure v
      | _, _ => boolOp pos .And (evalEach (y :: rest) env)) fun x1 v => Sim.stand ((Sim.holding sim_truthyV).bind fun b b' => ?_)
    intro H ρ s R p
    obtain ⟨e1, e2⟩ : b' = b ∧ v = .bool b := p.2
    subst e1 e2
    cases b' with
    | true => exact hy.1 H ρ s R p.1.1
    | false => exact wpAny_pure ⟨ρ, Full.refl _ _, R, .bool _⟩
  · rw [arm_isTrue_BoolOp, arm_allTrue_cons, ev_and]
    refine Sim.of_m (m := ((evalE cx.T Φ a Γ).bnd truth).bnd fun t => match t with
      | true => (evalE cx.T Φ b Γ).bnd truth
      | false => M.ret false) ?_ (hx.tru.bind fun b b' => ?_)
    · rw [bnd_assoc, bnd_assoc]
      congr 1; funext x1
      rw [bnd_assoc]
      congr 1; funext t
      cases t <;> rfl
    · intro H ρ s R p
      have e : b' = b := p.2
      refine e ▸ ?_
      cases b' with
      | true => exact hy.2 H ρ s R p.1
      | false => exact wpAny_pure ⟨ρ, Full.refl _ _, R, rfl⟩
set_option backward.match.sparseCases true in
theorem eok_or {a b : ME} {x y : Expr} {rest : List Expr} {pos : Pos} (hx : EOk cx A P Φ env Γ a x) (hy : EOks cx A P Φ env Γ .Or pos b (y :: rest)) : EOk cx A P Φ env Γ (.or a b) (.BoolOp .Or (x :: y :: rest) pos) := by
  refine ⟨?_, ?_⟩
  · skip
    refine hx.val.bind (f := fun v => do
      standAt pos
      let t ← holding [v] (truthy v)
      match BoolOp.Or, t with
      | .And, false | .Or, true => pure v
      | _, _ => boolOp pos .Or (evalEach (y :: rest) env)) fun x1 v => Sim.stand ((Sim.holding sim_truthyV).bind fun b b' => ?_)
    intro H ρ s R p
    obtain ⟨e1, e2⟩ : b' = b ∧ v = .bool b := p.2
    subst e1 e2
    cases b' with
    | false => exact hy.1 H ρ s R p.1.1
    | true => exact wpAny_pure ⟨ρ, Full.refl _ _, R, .bool _⟩
  · rw [arm_isTrue_BoolOp, arm_allTrue_cons, ev_or]
    refine Sim.of_m (m := ((evalE cx.T Φ a Γ).bnd truth).bnd fun t => match t with
      | true => M.ret true
      | false => (evalE cx.T Φ b Γ).bnd truth) ?_ (hx.tru.bind fun b b' => ?_)
    · rw [bnd_assoc, bnd_assoc]
      congr 1; funext x1
      rw [bnd_assoc]
      congr 1; funext t
      cases t <;> rfl
    · intro H ρ s R p
      have e : b' = b := p.2
      subst e
      cases b' with
      | false => exact hy.2 H ρ s R p.1
      | true => exact wpAny_pure ⟨ρ, Full.refl _ _, R, rfl⟩
theorem notSet_marks {r : Expr} (h : notSet r = true) (op : CmpOp) : behindInMarks op r = false := by
  cases r <;> first | rfl | cases h
theorem eok_cmp (hu : A.units + 100 < cLine) {op : COp} {a b : ME} {l r : Expr} {pos : Pos} (hn : notSet r = true) (x : EOk cx A P Φ env Γ a l) (y : EOk cx A P Φ env Γ b r) : EOk cx A P Φ env Γ (.cmp op a b) (.Compare l [cmOp op] [r] pos) := by
  have V : ∀ (x1 y1 : Val) (v w : Value), Sim cx A ((P.and (Amb.vr cx x1 v)).and (Amb.vr cx y1 w)) (operate [v, w] (compareOp (cmOp op) v w)) ((M.look (cmpV op x1 y1)).bnd fun r => M.ret (Val.bool r)) (Amb.vr cx) :=
    fun x1 y1 v w => Sim.oper (sim_cmp hu (fun _ _ p => p.1.2) fun _ _ p => p.2)
  refine ⟨?_, ?_⟩
  · rw [eval_Compare1, markedBehindIn_of_false (notSet_marks hn _)]
    exact x.val.bind fun x1 v => (Sim.holding y.val.and1).bind fun y1 w => Sim.stand (V x1 y1 v w)
  · rw [isTrue_Compare1, markedBehindIn_of_false (notSet_marks hn _), ev_cmp]
    rw [bnd_assoc]
    refine x.val.bind fun x1 v => ?_
    rw [bnd_assoc]
    exact (Sim.holding y.val.and1).bind fun y1 w => Sim.stand ((V x1 y1 v w).bind fun r c => Sim.holding sim_truthyA)
theorem eok_cmp2 (hu : A.units + 100 < cLine) {op1 op2 : COp} {a b c : ME} {l m r : Expr} {pos : Pos} (hn : notSet r = true) (x : EOk cx A P Φ env Γ a l) (y : EOk cx A P Φ env Γ b m) (z : EOk cx A P Φ env Γ c r) : EOk cx A P Φ env Γ (.cmp2 op1 op2 a b c) (.Compare l [cmOp op1, cmOp op2] [m, r] pos) := by
  have V1 : ∀ (x1 y1 : Val) (v w : Value), Sim cx A ((P.and (Amb.vr cx x1 v)).and (Amb.vr cx y1 w)) (holding [v, w] (compareOp (cmOp op1) v w)) ((M.look (cmpV op1 x1 y1)).bnd fun r => M.ret (Val.bool r)) (Amb.vr cx) :=
    fun x1 y1 v w => Sim.holding (sim_cmp hu (fun _ _ p => p.1.2) fun _ _ p => p.2)
  have e0 : ∀ (x1 y1 : Val) (k : Bool → M Val), ((M.look (cmpV op1 x1 y1)).bnd k) = (((M.look (cmpV op1 x1 y1)).bnd fun r => M.ret (Val.bool r)).bnd fun v => (truth v).bnd k) := fun x1 y1 k => by
    rw [bnd_assoc]; rfl
  refine ⟨?_, ?_⟩
  · rw [arm_eval_Compare, ev_cmp2]
    have em : markedEach [cmOp op1, cmOp op2] [m, r] (evalEach [m, r] env) = [eval m env, eval r env] := by
      show [eval m env, markedBehindIn (cmOp op2) r (eval r env)] = _
      rw [markedBehindIn_of_false (notSet_marks hn _)]
    rw [em]
    refine x.val.bind (f := fun left => do
      let rv ← holding [left] (eval m env)
      standAt pos
      let c ← holding [left, rv] (compareOp (cmOp op1) left rv)
      release [left, rv] [c]
      if ← holding [c, rv] (truthy c) then compareChain pos rv [cmOp op2] [eval r env] else pure c) fun x1 v => ?_
    refine (Sim.holding y.val.and1).bind fun y1 w => Sim.stand ?_
    rw [e0]
    refine (V1 x1 y1 v w).bind fun r1 c1 => Sim.relse ?_
    refine (Sim.holding sim_truthyV).bind fun t t' => ?_
    intro H ρ s R p
    obtain ⟨e1, e2⟩ : t' = t ∧ c1 = .bool t := p.2
    subst e1 e2
    cases t' with
    | false => exact wpAny_pure ⟨ρ, Full.refl _ _, R, .bool _⟩
    | true =>
      have W : Sim cx A (P.and (Amb.vr cx y1 w)) (compareChain pos w [cmOp op2] [eval r env]) ((evalE cx.T Φ c Γ).bnd fun z => (M.look (cmpV op2 y1 z)).bnd fun r => M.ret (Val.bool r)) (Amb.vr cx) :=
        (Sim.holding z.val.and1).bind fun z1 u => Sim.stand (Sim.oper (sim_cmp hu (fun _ _ p => p.1.2) fun _ _ p => p.2))
      exact W H ρ s R ⟨p.1.1.1.1, p.1.1.2⟩
  · rw [arm_isTrue_Compare, ev_cmp2]
    have em : markedEach [cmOp op1, cmOp op2] [m, r] (evalEach [m, r] env) = [eval m env, eval r env] := by
      show [eval m env, markedBehindIn (cmOp op2) r (eval r env)] = _
      rw [markedBehindIn_of_false (notSet_marks hn _)]
    rw [em, bnd_assoc]
    refine x.val.bind (f := fun left => do
      let rv ← holding [left] (eval m env)
      standAt pos
      let c ← holding [left, rv] (compareOp (cmOp op1) left rv)
      release [left, rv] [c]
      if ← holding [c, rv] (truthy c) then testChain pos rv [cmOp op2] [eval r env] else pure false) fun x1 v => ?_
    rw [bnd_assoc]
    refine (Sim.holding y.val.and1).bind fun y1 w => Sim.stand ?_
    rw [e0, bnd_assoc]
    refine (V1 x1 y1 v w).bind fun r1 c1 => Sim.relse ?_
    rw [bnd_assoc]
    refine (Sim.holding sim_truthyV).bind fun t t' => ?_
    intro H ρ s R p
    obtain ⟨e1, e2⟩ : t' = t ∧ c1 = .bool t := p.2
    subst e1 e2
    cases t' with
    | false => exact wpAny_pure ⟨ρ, Full.refl _ _, R, rfl⟩
    | true =>
      have W : Sim cx A (P.and (Amb.vr cx y1 w)) (testChain pos w [cmOp op2] [eval r env]) (((evalE cx.T Φ c Γ).bnd fun z => (M.look (cmpV op2 y1 z)).bnd fun r => M.ret (Val.bool r)).bnd truth) BV := by
        rw [bnd_assoc]
        have V2 : ∀ (z1 : Val) (u : Value), Sim cx A ((P.and (Amb.vr cx y1 w)).and (Amb.vr cx z1 u)) (operate [w, u] (compareOp (cmOp op2) w u)) ((M.look (cmpV op2 y1 z1)).bnd fun r => M.ret (Val.bool r)) (Amb.vr cx) :=
          fun z1 u => Sim.oper (sim_cmp hu (fun _ _ p => p.1.2) fun _ _ p => p.2)
        exact (Sim.holding z.val.and1).bind fun z1 u => Sim.stand ((V2 z1 u).bind fun _ _ => Sim.holding sim_truthyA)
      exact W H ρ s R ⟨p.1.1.1.1, p.1.1.2⟩
end
end Mine
-- part MCall
namespace Mine
open PySem
theorem look_some {α : Type} {f : Hp → Option α} {H : Hp} {a : α} (h : f H = some a) : M.look f H = .ok a H := by unfold M.look; rw [h]
theorem look_none {α : Type} {f : Hp → Option α} {H : Hp} (h : f H = none) : M.look f H = .bad := by unfold M.look; rw [h]
theorem blt_mem (f : BF) (h : f ≠ .sortedSet) : ((bfName f).1, bfVal f) ∈ bltTab := by
  unfold bltTab
  cases f <;> first
    | exact absurd rfl h
    | repeat (first | exact List.Mem.head _ | apply List.Mem.tail)
theorem ty_mem (t : Ty) (h : ∀ c, t ≠ .cls c) : (tyName t, tyVal t) ∈ bltTab := by
  unfold bltTab
  cases t <;> first
    | exact absurd rfl (h _)
    | repeat (first | exact List.Mem.head _ | apply List.Mem.tail)
theorem isi_mem : (("isinstance" : Str), Value.builtin "isinstance") ∈ bltTab := by
  unfold bltTab
  repeat (first | exact List.Mem.head _ | apply List.Mem.tail)
section
variable {cx : Cx} {N : Names} {A : Around} {P : Amb} {env : Env} {sc : Scope} {ns : List (Option Str)} {Γ : Env'} {Φ : Funs} {l : List Env}
theorem len2 {α : Type} {xs : List α} (h : xs.length = 2) : ∃ a b, xs = [a, b] := by
  match xs, h with
  | [a, b], _ => exact ⟨a, b, rfl⟩
theorem sim_bfcall (hh : A.handled = none) (hu : A.units + 100 < cLine) (f : BF) (hf : f ≠ .sortedSet) {ms : List Val} {vs : List Value} (hl : ms.length = (bfName f).2) : Sim cx A (Amb.vrs cx ms vs) (call (bfVal f) vs) (bfV f ms) (Amb.vr cx) := by
  have one : ∀ {t : Sem Value} {m : Val → M Val}, ms.length = 1 → (∀ (a : Val) (v : Value), ms = [a] → vs = [v] → Sim cx A (Amb.vr cx a v) t (bfV f ms) (Amb.vr cx)) → Sim cx A (Amb.vrs cx ms vs) t (bfV f ms) (Amb.vr cx) := by
    intro t m h1 k H ρ s R p
    have p' : VRs cx ρ s.heap ms vs := p
    have hv := p'.length
    obtain ⟨a, rfl⟩ := List.length_eq_one_iff.mp h1
    refine ex1 p'.one_inv fun v zz => aNd2 zz fun zr1 x => ?_; subst zr1
    exact k a v rfl rfl H ρ s R x
  have two : ∀ {t : Sem Value} {m : Val → M Val}, ms.length = 2 → (∀ (a b : Val) (v w : Value), ms = [a, b] → vs = [v, w] → Sim cx A ((Amb.vr cx a v).and (Amb.vr cx b w)) t (bfV f ms) (Amb.vr cx)) → Sim cx A (Amb.vrs cx ms vs) t (bfV f ms) (Amb.vr cx) := by
    intro t m h1 k H ρ s R p
    have p' : VRs cx ρ s.heap ms vs := p
    have hv := p'.length
    refine ex2 (len2 h1) fun a b zr2 => ?_; subst zr2
    refine ex2 p'.two_inv fun v w zz => aNd3 zz fun zr2 x y => ?_; subst zr2
    exact k a b v w rfl rfl H ρ s R ⟨x, y⟩
  cases f with
  | len => exact one (m := fun _ => .bad) hl fun a v e1 e2 => by subst e1 e2; exact sim_len fun _ _ p => p
  | range => exact one (m := fun _ => .bad) hl fun a v e1 e2 => by subst e1 e2; exact sim_range fun _ _ p => p
  | list => exact one (m := fun _ => .bad) hl fun a v e1 e2 => by subst e1 e2; exact sim_listOf hh fun _ _ p => p
  | sorted => exact one (m := fun _ => .bad) hl fun a v e1 e2 => by subst e1 e2; exact sim_sorted hu fun _ _ p => p
  | sortedSet => exact absurd rfl hf
theorem eok_bf (B : Base cx N) (hh : A.handled = none) (hu : A.units + 100 < cLine) {f : BF} {x : Str} {xs : List Expr} {es : MEs} {np pos : Pos} (hg : isGlob sc x = true) (hx : (bfName f).1 = x) (hl : (bfName f).2 = xs.length) (hes : ckEs N sc ns es xs = true)
    (y : Sim cx A ((Amb.env cx env sc ns Γ).and (Amb.frames cx l)) (spliced (xs.map fun e => (false, eval e env))) (evalEs cx.T Φ es Γ) (Amb.vrs cx)) :
    EOk cx A ((Amb.env cx env sc ns Γ).and (Amb.frames cx l)) Φ env Γ (.bf f es) (.Call (.Name x np) xs [] pos) := by
  refine EOk.of ?_ rfl
  refine ex2 B.ns fun mg mb zz => aNd6 zz fun ng nb _ _ _ q => ?_
  intro H ρ s R p
  by_cases hf : f = .sortedSet
  · subst hf
    first | rw [ev_call] | rw [ev_new] | rw [ev_umeth] | rw [ev_bf] | rw [ev_isinst] | rw [ev_bm]
    show SimAt cx A (M.bnd _ (fun vs => bfV .sortedSet vs) H) _ _ ρ s
    have hx' : xs = [] := List.eq_nil_of_length_eq_zero hl.symm
    subst hx'
    obtain hr0 := ckEs_nil hes; refine Eq.symm hr0 ▸ ?_
    trivial
  · have q12 : mg (bfName f).1 = none ∧ mb (bfName f).1 = some (bfVal f) := q _ (blt_mem f hf)
    obtain ⟨q1, q2⟩ := q12
    rw [hx] at q1 q2
    first | rw [ev_call] | rw [ev_new] | rw [ev_umeth] | rw [ev_bf] | rw [ev_isinst] | rw [ev_bm]
    refine SimK.mono (simK_args (f := bfVal f) (K := fun vs Q E s => wpAny (model cx.prog cx.w) A (call (bfVal f) vs) Q E s) (fun e => ckEs_nil (e ▸ hes)) R (y H ρ s R p) ?_ fun _ => monoK_wp _) ?_
    · intro ms vs H1 ρ1 s1 e1 F1 R1 vrs
      exact sim_bfcall hh hu f hf (by rw [evalEs_length hes e1, hl]) H1 ρ1 s1 R1 vrs
    · intro Q E h
      refine wpAny_Call_ofName (wp_glob R p.1.st hg ng nb (v := bfVal f) (.inr ⟨q1, q2⟩) ?_)
      rw [plainArgs_trees pos (ckEs_plain hes)]
      have hq : (∃ id, bfVal f = .builtin id) ∨ ∃ T, bfVal f = .type T := by
        cases f <;> first | exact absurd rfl hf | exact .inl ⟨_, rfl⟩ | exact .inr ⟨_, rfl⟩
      generalize bfVal f = bv at h hq ⊢
      rcases hq with ⟨id, rfl⟩ | ⟨T, rfl⟩
      · exact Calls.callWith_builtin (any_false _) (wpAny_mono h (fun a s₁ h₁ => by rw [h₁.1]; exact h₁.2) fun _ _ q => q)
      · exact PyProof.Rows.callWith_type (any_false _) (wpAny_mono h (fun a s₁ h₁ => by rw [h₁.1]; exact h₁.2) fun _ _ q => q)
theorem eok_isi (B : Base cx N) {t : Ty} (ht : ∀ c, t ≠ .cls c) {a : ME} {f y : Str} {x : Expr} {fp yp pos : Pos} (hg : isGlob sc f = true) (hf : f = ("isinstance" : Str)) (hy : isGlob sc y = true) (hty : tyName t = y) (hp : notStar x = true)
    (z : EOk cx A ((Amb.env cx env sc ns Γ).and (Amb.frames cx l)) Φ env Γ a x) :
    EOk cx A ((Amb.env cx env sc ns Γ).and (Amb.frames cx l)) Φ env Γ (.isinst a t) (.Call (.Name f fp) [x, .Name y yp] [] pos) := by
  refine EOk.of ?_ rfl
  refine ex2 B.ns fun mg mb zz => aNd6 zz fun ng nb _ _ _ q => ?_
  intro H ρ s R p
  have q12 : mg ("isinstance" : Str) = none ∧ mb ("isinstance" : Str) = some (.builtin "isinstance") := q _ isi_mem
  have q34 : mg (tyName t) = none ∧ mb (tyName t) = some (tyVal t) := q _ (ty_mem t ht)
  obtain ⟨q1, q2⟩ := q12
  obtain ⟨q3, q4⟩ := q34
  rw [← hf] at q1 q2
  rw [hty] at q3 q4
  first | rw [ev_call] | rw [ev_new] | rw [ev_umeth] | rw [ev_bf] | rw [ev_isinst] | rw [ev_bm]
  refine SimAt.bindK (K' := fun Q E s => wpAny (model cx.prog cx.w) A (eval (.Call (.Name f fp) [x, .Name y yp] [] pos) env) Q E s) (K := fun v Q E s => wpAny (model cx.prog cx.w) A (eval (.Name y yp) env) (fun w s' => wpAny (model cx.prog cx.w) A (call (.builtin "isinstance") [v, w]) Q E s') E s) (z.val H ρ s R p) ?_ ?_ ?_
  · intro b v H1 ρ1 s1 _ F1 R1 vr
    have e1 := (p.1.full F1).st
    have ht2 : (isinstV cx.T b t) = M.look (fun H => (kdOf H b).map fun k => Val.bool (isKd t k)) := by
      cases t <;> first | rfl | exact absurd rfl (ht _)
    show SimK cx (isinstV cx.T b t H1) _ _ ρ1 s1
    rw [ht2]
    cases ek : kdOf H1 b with
    | none =>
      have : M.look (fun H => (kdOf H b).map fun k => Val.bool (isKd t k)) H1 = .bad := look_none (by show Option.map _ (kdOf H1 b) = none; rw [ek]; rfl)
      rw [this]; trivial
    | some k =>
      have : M.look (fun H => (kdOf H b).map fun k => Val.bool (isKd t k)) H1 = .ok (Val.bool (isKd t k)) H1 := look_some (by show Option.map _ (kdOf H1 b) = _; rw [ek]; rfl)
      rw [this]
      refine wp_glob R1 e1 hy ng nb (v := tyVal t) (.inr ⟨q3, q4⟩) ?_
      exact wp_isi R1 vr ek ht fun tk => ⟨ρ1, Full.refl _ _, R1.toks tk, .bool _⟩
  · exact fun v Q E Q' E' s h k1 k2 => wpAny_mono h (fun _ _ h' => wpAny_mono h' k1 k2) k2
  · intro Q E h
    refine wpAny_Call_ofName (wp_glob R p.1.st hg ng nb (v := .builtin "isinstance") (.inr ⟨q1, q2⟩) ?_)
    have pl : plainArgs env [x, .Name y yp] := ⟨starEach_plain hp, starEach_plain rfl, trivial⟩
    rw [plainArgs_trees pos pl]
    refine Calls.callWith_builtin (any_false _) (Calls.evalArgs_plain (Calls.spliced_cons (wpAny_mono h (fun v s' h' => ?_) fun _ _ q => q)))
    exact Calls.spliced_cons (wpAny_mono h' (fun w s'' h'' => Calls.spliced_nil h'') fun _ _ q => q)
theorem eok_sub (hu : A.units + 100 < cLine) {a i : ME} {v s : Expr} {pos : Pos} (x : EOk cx A P Φ env Γ a v) (y : EOk cx A P Φ env Γ i s) : EOk cx A P Φ env Γ (.sub a i) (.Subscript v s pos) := by
  refine EOk.of ?_ rfl
  intro H ρ st R p
  refine SimAt.bindK (K' := fun Q E s' => wpAny (model cx.prog cx.w) A (eval (.Subscript v s pos) env) Q E s') (K := fun o Q E s' => wpAny (model cx.prog cx.w) A (eval s env) (fun i s'' => wpAny (model cx.prog cx.w) A (PyProof.Rows.subscriptTail v s o i) Q E s'') E s') (x.val H ρ st R p) ?_ ?_ ?_
  · intro b o H1 ρ1 s1 _ F1 R1 vr
    refine SimAt.bindK (K' := fun Q E s' => wpAny (model cx.prog cx.w) A (eval s env) (fun i s'' => wpAny (model cx.prog cx.w) A (PyProof.Rows.subscriptTail v s o i) Q E s'') E s') (K := fun i Q E s' => wpAny (model cx.prog cx.w) A (PyProof.Rows.subscriptTail v s o i) Q E s') (y.val H1 ρ1 s1 R1 (P.st _ _ _ _ p F1)) ?_ (fun _ => monoK_wp _) fun Q E h => h
    intro b2 i2 H2 ρ2 s2 _ F2 R2 vr2
    exact sim_subTail (P := (Amb.vr cx b o).and (Amb.vr cx b2 i2)) hu (fun _ _ p => p.1) (fun _ _ p => p.2) H2 ρ2 s2 R2 ⟨vr.step F2.step, vr2⟩
  · exact fun v Q E Q' E' s h k1 k2 => wpAny_mono h (fun _ _ h' => wpAny_mono h' k1 k2) k2
  · exact fun Q E h => PyProof.Rows.Subscript_ h
end
end Mine
-- part MIsi2
namespace Mine
open PySem
section
variable {cx : Cx} {N : Names} {A : Around} {Φ : Funs} {l : List Env} {env : Env} {sc : Scope} {ns : List (Option Str)} {Γ : Env'} {H : Hp} {ρ : Rho} {s : Shared}
theorem wp_isiX (B : Base cx N) (R : Rel cx H ρ s) {c dc : Nat} {v D : Value} (vr : VR cx ρ s.heap (.exc c) v) (hi : cx.T.isExc c = true) (hD : cx.cls[dc]? = some D) {Q : Value → Shared → Prop} {E : Value → Shared → Prop} (q : ∀ tk, Q (.bool (cx.T.sub c dc)) { s with toks := tk }) :
    wpAny (model cx.prog cx.w) A (call (.builtin "isinstance") [v, D]) Q E s := by
  refine ex1 (B.exc c hi) fun C zz => aNd2 zz fun hC ok => ?_
  refine ex1 ok.isi fun K zz => aNd3 zz fun X k m => ?_
  obtain ⟨m1, m2⟩ := m dc D hD
  cases vr with
  | @exc a o _ C' g no hC' x =>
    rw [hC] at hC'; cases hC'
    refine aNd3 x fun x1 zn1 x3 => ?_; obtain ⟨vs, x2⟩ := zn1
    have XK : K.In s.heap := fun b ob e => R.base b ob (X b ob e)
    refine excK_call (K := K) (D := C) (ox := o) k XK ⟨g, x1, by unfold PySem.W.notCls; rw [x2], by rw [x3]; trivial⟩ (fun M h' X' => (clsVal_ty m1 X').1) (fun M h' X' => (clsVal_ty m1 X').2) (fun e => ?_) (fun M h' X' => PySem.W.looks_mroIn X' m2) q
    have e' := beq_iff_eq.mp e
    subst e'
    have := ok.is
    refine hideG fun G kG => ?_
    refine ex14 ok.is fun nm qn Nn bs bm hdct sn sub ab col dd k0 k1 k2 zz => ex3 zz fun k3 k5 mN zz => aNd5 zz fun hCo hNs hin tl hsub => ?_
    refine kG ?_
    rw [hsub dc _ hD, List.contains_cons, beq_self_eq_true, Bool.true_or]
theorem eok_isiC (B : Base cx N) {dc : Nat} {a : ME} {f y : Str} {x : Expr} {fp yp pos : Pos} (hg : isGlob sc f = true) (hf : f = ("isinstance" : Str)) (hy : isGlob sc y = true) (hc : hasNo N.clss y dc = true) (hp : notStar x = true)
    (z : EOk cx A ((Amb.env cx env sc ns Γ).and (Amb.frames cx l)) Φ env Γ a x) :
    EOk cx A ((Amb.env cx env sc ns Γ).and (Amb.frames cx l)) Φ env Γ (.isinst a (.cls dc)) (.Call (.Name f fp) [x, .Name y yp] [] pos) := by
  refine EOk.of ?_ rfl
  refine hideG fun G kG => ?_
  refine ex2 B.ns fun mg mb zz => aNd6 zz fun ng nb _ _ qc q => ?_
  refine kG ?_
  intro H ρ s R p
  have q12 : mg ("isinstance" : Str) = none ∧ mb ("isinstance" : Str) = some (.builtin "isinstance") := q _ isi_mem
  obtain ⟨q1, q2⟩ := q12
  rw [← hf] at q1 q2
  refine ex1 (qc y dc (hasNo_eq hc)) fun D zz => aNd2 zz fun hD hx => ?_
  refine SimAt.bindK (K' := fun Q E s => wpAny (model cx.prog cx.w) A (eval (.Call (.Name f fp) [x, .Name y yp] [] pos) env) Q E s) (K := fun v Q E s => wpAny (model cx.prog cx.w) A (eval (.Name y yp) env) (fun w s' => wpAny (model cx.prog cx.w) A (call (.builtin "isinstance") [v, w]) Q E s') E s) (z.val H ρ s R p) ?_ ?_ ?_
  · intro b v H1 ρ1 s1 _ F1 R1 vr
    have e1 := (p.1.full F1).st
    cases b with
    | exc c =>
      by_cases hi : cx.T.isExc c = true
      · have : isinstV cx.T (.exc c) (.cls dc) H1 = .ok (.bool (cx.T.sub c dc)) H1 := look_some (by show (if cx.T.isExc c = true then some (Val.bool (cx.T.sub c dc)) else none) = _; rw [if_pos hi])
        rw [this]
        refine wp_glob R1 e1 hy ng nb hx ?_
        exact wp_isiX B R1 vr hi hD fun tk => ⟨ρ1, Full.refl _ _, R1.toks tk, .bool _⟩
      · have : isinstV cx.T (.exc c) (.cls dc) H1 = .bad := look_none (by show (if cx.T.isExc c = true then some (Val.bool (cx.T.sub c dc)) else none) = _; rw [if_neg hi])
        rw [this]; trivial
    | _ => trivial
  · exact fun v Q E Q' E' s h k1 k2 => wpAny_mono h (fun _ _ h' => wpAny_mono h' k1 k2) k2
  · intro Q E h
    refine wpAny_Call_ofName (wp_glob R p.1.st hg ng nb (v := .builtin "isinstance") (.inr ⟨q1, q2⟩) ?_)
    have pl : plainArgs env [x, .Name y yp] := ⟨starEach_plain hp, starEach_plain rfl, trivial⟩
    rw [plainArgs_trees pos pl]
    refine Calls.callWith_builtin (any_false _) (Calls.evalArgs_plain (Calls.spliced_cons (wpAny_mono h (fun v s' h' => ?_) fun _ _ q => q)))
    exact Calls.spliced_cons (wpAny_mono h' (fun w s'' h'' => Calls.spliced_nil h'') fun _ _ q => q)
end
end Mine
-- part MComp
namespace Mine
open PySem
noncomputable def cloOf (env : Env) : List (Str × NameKind) → List (Str × Addr) → List (Str × Addr)
  | [], acc => acc
  | (n, k) :: r, acc => if k == .free then cloOf env r ((n, (env.cells.lookup n).getD 0) :: acc) else cloOf env r acc
theorem closureFor_eq {scope : Scope} {env : Env} (h : ∀ p ∈ scope.names, p.2 = .free → ∃ c, env.cells.lookup p.1 = some c) : closureFor scope env = pure (cloOf env scope.names []) := by
  have gen : ∀ (names : List (Str × NameKind)) (acc : List (Str × Addr)), (∀ p ∈ names, p.2 = .free → ∃ c, env.cells.lookup p.1 = some c) →
      (forIn names acc fun x cs => if (x.2 == .free) = true then (do let c ← cellOf env x.1; pure (ForInStep.yield ((x.1, c) :: cs))) else pure (ForInStep.yield cs) : Sem _) = pure (cloOf env names acc) := by
    intro names
    induction names with
    | nil => intro acc _; rfl
    | cons p r ih =>
      intro acc hp
      obtain ⟨n, k⟩ := p
      rw [List.forIn_cons]
      unfold cloOf
      by_cases q : (k == .free) = true
      · obtain ⟨c, hc⟩ := hp (n, k) (.head _) (by simpa using q)
        have hc' : env.cells.lookup n = some c := hc
        have e : cellOf env n = pure c := by unfold cellOf; rw [hc']
        simp only [q, if_true, e, pure_bind, hc', Option.getD_some]
        exact ih _ fun p hp' => hp p (.tail _ hp')
      · simp only [q, if_false, pure_bind]
        exact ih _ fun p hp' => hp p (.tail _ hp')
  unfold closureFor
  have := gen scope.names [] h
  simp only [bind_pure] at this ⊢
  rw [← this]
set_option tactic.hygienic true in
theorem clo_val {env : Env} : ∀ {names : List (Str × NameKind)} {acc : List (Str × Addr)} {y : Str} {c : Addr}, (∀ z d, acc.lookup z = some d → d = (env.cells.lookup z).getD 0) → (cloOf env names acc).lookup y = some c → c = (env.cells.lookup y).getD 0
  | [], acc, y, c, ha, h => ha y c h
  | (n, k) :: r, acc, y, c, ha, h => by
    unfold cloOf at h
    split at h
    · refine clo_val (fun z d hd => ?_) h
      rw [List.lookup_cons] at hd
      split at hd
      · rename_i e
        have : z = n := by simpa using e
        refine Eq.symm this ▸ ?_
        cases hd; rfl
      · exact ha z d hd
    · exact clo_val ha h
set_option tactic.hygienic true in
theorem clo_has {env : Env} : ∀ {names : List (Str × NameKind)} {acc : List (Str × Addr)} {y : Str}, ((y, NameKind.free) ∈ names ∨ (acc.lookup y).isSome = true) → ((cloOf env names acc).lookup y).isSome = true
  | [], _, _, h => by
    rcases h with h | h
    · cases h
    · exact h
  | (n, k) :: r, acc, y, h => by
    unfold cloOf
    split
    · rename_i hk
      refine clo_has ?_
      rcases h with h | h
      · rcases List.mem_cons.mp h with e | h
        · cases e; right; simp
        · exact .inl h
      · right
        rw [List.lookup_cons]
        split
        · rfl
        · exact h
    · rename_i hk
      refine clo_has ?_
      rcases h with h | h
      · rcases List.mem_cons.mp h with e | h
        · cases e; simp at hk
        · exact .inl h
      · exact .inr h
set_option tactic.hygienic true in
theorem clo_mem {env : Env} : ∀ {names : List (Str × NameKind)} {acc : List (Str × Addr)} {y : Str} {c : Addr}, (cloOf env names acc).lookup y = some c → (y, NameKind.free) ∈ names ∨ (acc.lookup y).isSome = true
  | [], _, _, _, h => by right; have h' : List.lookup _ _ = _ := h; unfold cloOf at h'; rw [h']; rfl
  | (n, k) :: r, acc, y, c, h => by
    unfold cloOf at h
    split at h
    · rename_i hk
      rcases clo_mem h with h | h
      · exact .inl (.tail _ h)
      · rw [List.lookup_cons] at h
        split at h
        · rename_i e
          have : y = n := by simpa using e
          refine this ▸ ?_
          have : k = .free := by simpa using hk
          subst this
          exact .inl (.head _)
        · exact .inr h
    · rcases clo_mem h with h | h
      · exact .inl (.tail _ h)
      · exact .inr h
theorem cellsFrom_append : ∀ (names : List (Str × NameKind)) (n : Nat) (acc : List (Str × Addr)), cellsFrom n names acc = cellsFrom n names [] ++ acc
  | [], _, _ => rfl
  | (y, k) :: r, n, acc => by
    unfold cellsFrom
    split
    · rw [cellsFrom_append r (n + 1) ((y, n) :: acc), cellsFrom_append r (n + 1) [(y, n)], List.append_assoc]; rfl
    · exact cellsFrom_append r n acc
set_option tactic.hygienic true in
theorem cellsFrom_mem : ∀ {names : List (Str × NameKind)} {n : Nat} {acc : List (Str × Addr)} {y : Str} {c : Addr}, (y, c) ∈ cellsFrom n names acc → (y, NameKind.cell) ∈ names ∨ (y, c) ∈ acc
  | [], _, _, _, _, h => .inr h
  | (z, k) :: r, n, acc, y, c, h => by
    unfold cellsFrom at h
    split at h
    · rename_i hk
      rcases cellsFrom_mem h with h | h
      · exact .inl (.tail _ h)
      · rcases List.mem_cons.mp h with e | h
        · cases e
          have : k = .cell := by simpa using hk
          refine this ▸ ?_
          exact .inl (.head _)
        · exact .inr h
    · rcases cellsFrom_mem h with h | h
      · exact .inl (.tail _ h)
      · exact .inr h
theorem relabel_lookup {env : Env} : ∀ (names : List (Str × NameKind)) (y : Str), (names.map fun (n, k) => if (k == NameKind.free && env.scope.kind == .function && env.kindOf n == some .cell) then (n, NameKind.cell) else (n, k)).lookup y =
    (names.lookup y).map fun k => if (k == NameKind.free && env.scope.kind == .function && env.kindOf y == some .cell) = true then NameKind.cell else k
  | [], _ => rfl
  | (n, k) :: r, y => by
    have ih := @relabel_lookup env r y
    show List.lookup y ((if (k == NameKind.free && env.scope.kind == .function && env.kindOf n == some .cell) = true then (n, NameKind.cell) else (n, k)) :: _) = _
    cases hx : y == n with
    | true =>
      have : y = n := by simpa using hx
      refine this ▸ ?_
      by_cases hc : (k == NameKind.free && env.scope.kind == .function && env.kindOf y == some .cell) = true
      · rw [if_pos hc]
        simp only [List.lookup_cons, beq_self_eq_true, Option.map_some]
        rw [if_pos hc]
      · rw [if_neg hc]
        simp only [List.lookup_cons, beq_self_eq_true, Option.map_some]
        rw [if_neg hc]
    | false =>
      by_cases hc : (k == NameKind.free && env.scope.kind == .function && env.kindOf n == some .cell) = true
      · rw [if_pos hc]; simp only [List.lookup_cons, hx]; exact ih
      · rw [if_neg hc]; simp only [List.lookup_cons, hx]; exact ih
noncomputable def compEnv (csc : Scope) (env : Env) (L : Addr) : Env :=
  { scope := relabel csc env, locals := L, globals := env.globals, cells := cellsFrom (L + 1) csc.names (cloOf env csc.names []), qual := env.qual, func := none, code := env.code, frame := env.frame, builtins := env.builtins }
noncomputable def compHeap (csc : Scope) (h : Heap) : Heap := pushCells (h.push { cls := .type "dict", data := .dict #[] }) csc.names
theorem wpAny_newCompEnv {M : Model} {A : Around} {E : Value → Shared → Prop} {s : Shared} {env : Env} {csc : Scope} {Q : Env → Shared → Prop} (cl : List (Str × Addr))
    (h : Q (newEnv csc s.heap.objs.size env.globals (cellsFrom (s.heap.objs.size + 1) csc.names cl) env.qual none .none (some env) builtinsNs) { s with heap := compHeap csc s.heap }) :
    wpAny M A (newFunctionEnv csc env.globals cl [] env.qual none .none (some env)) Q E s := by
  simp only [newFunctionEnv, Option.isSome_some, if_true]
  refine wpAny_bind (wpAny_alloc ?_)
  refine wpAny_bind (wpAny_layCells _ (fun name kind cells => by cases hkc : kind == NameKind.cell <;> simp [hkc]) _ _ _ _ ?_)
  rw [show ({ s with heap := s.heap.push { cls := .type "dict", data := .dict #[] } } : Shared).heap.objs.size = s.heap.objs.size + 1 from Heap.size_push ..]
  exact wpAny_bind (wpAny_pure (wpAny_pure h))
section
variable {cx : Cx} {N : Names} {A : Around} {env : Env} {sc csc : Scope} {ns : List (Option Str)} {Γ : Env'} {H : Hp} {ρ : Rho} {s : Shared} {x : Str}
set_option tactic.hygienic true in
theorem compOk_parts (h : compOk sc csc x = true) : csc.kind = .function ∧ (csc.names.lookup x = some .local ∨ csc.names.lookup x = some .cell) ∧
    (∀ p ∈ csc.names, csc.names.lookup p.1 = some p.2 ∧ (p.2 = .free → sc.names.lookup p.1 = some .cell ∨ sc.names.lookup p.1 = some .free)) := by
  unfold compOk at h
  simp only [Bool.and_eq_true] at h
  obtain ⟨⟨h1, h2⟩, h3⟩ := h
  refine ⟨?_, ?_, fun p hp => ?_⟩
  · split at h1
    · assumption
    · exact nomatch h1
  · split at h2
    · left; assumption
    · right; assumption
    · exact nomatch h2
  · have h4 := List.all_eq_true.mp h3 p hp
    obtain ⟨y, k⟩ := p
    cases k <;> simp only at h4
    case «local» =>
      split at h4
      · rename_i e; exact ⟨e, fun q => nomatch q⟩
      · exact nomatch h4
    case cell =>
      split at h4
      · rename_i e; exact ⟨e, fun q => nomatch q⟩
      · exact nomatch h4
    case free =>
      rw [Bool.and_eq_true] at h4
      obtain ⟨h4, h5⟩ := h4
      refine ⟨?_, fun _ => ?_⟩
      · split at h4
        · assumption
        · exact nomatch h4
      · split at h5
        · left; assumption
        · right; assumption
        · exact nomatch h5
    case globalImplicit =>
      split at h4
      · rename_i e; exact ⟨e, fun q => nomatch q⟩
      · exact nomatch h4
    all_goals cases h4
theorem compHeap_keep (csc : Scope) (h : Heap) : ∀ b o, h.get? b = some o → (compHeap csc h).get? b = some o := fun b o e => pushCells_keeps _ _ b o (Heap.get?_push_of_some _ e)
set_option tactic.hygienic true in
theorem comp_env (R : Rel cx H ρ s) (e0 : EnvOk cx env sc ns Γ ρ s.heap) (hc : compOk sc csc x = true) (hΓ : Γ.length = ns.length) :
    EnvOk cx (compEnv csc env s.heap.objs.size) csc (inner csc ns ++ [some x]) (Γ ++ [none]) ρ (compHeap csc s.heap) ∧
    (∀ q, csc.names.lookup x = some .cell → (compEnv csc env s.heap.objs.size).cells.lookup x = some q → s.heap.get? q = none) := by
  refine aNd3 (compOk_parts hc) fun c1 c2 c3 => ?_
  have F : Full ρ s.heap ρ (compHeap csc s.heap) := Full.more (compHeap_keep csc s.heap)
  have lvB : Live cx.h₀ s.heap := fun b o e => ⟨o, R.base b o e⟩
  have ok := cellsFrom_ok csc.names (s.heap.push { cls := .type "dict", data := .dict #[] }) (s.heap.objs.size + 1) [] ⟨fun _ _ hm => (nomatch hm), List.Pairwise.nil⟩ (by rw [Heap.size_push]; exact Nat.le_refl _)
  rw [Heap.size_push] at ok
  have hcells : (compEnv csc env s.heap.objs.size).cells = cellsFrom (s.heap.objs.size + 1) csc.names [] ++ cloOf env csc.names [] := cellsFrom_append _ _ _
  have hlook : ∀ y c, (compEnv csc env s.heap.objs.size).cells.lookup y = some c →
      ((cellsFrom (s.heap.objs.size + 1) csc.names []).lookup y = some c ∧ (compHeap csc s.heap).IsCell c none ∧ s.heap.get? c = none ∧ csc.names.lookup y = some .cell) ∨
      (env.cells.lookup y = some c ∧ csc.names.lookup y = some .free) := by
    intro y c h
    rw [hcells, List.lookup_append] at h
    cases q : (cellsFrom (s.heap.objs.size + 1) csc.names []).lookup y with
    | some d =>
      rw [q] at h
      cases h
      have m := ok.empty y c (mem_of_lookup q)
      refine .inl ⟨rfl, m.1, fresh_le (Nat.le_of_succ_le m.2), ?_⟩
      rcases cellsFrom_mem (mem_of_lookup q) with w | w
      · exact (c3 _ w).1
      · exact nomatch w
    | none =>
      rw [q] at h
      have h' : (cloOf env csc.names []).lookup y = some c := h
      have m := clo_mem h'
      have mf : (y, NameKind.free) ∈ csc.names := by
        rcases m with m | m
        · exact m
        · cases m
      obtain ⟨l1, l2⟩ := c3 _ mf
      obtain ⟨d, hd⟩ := e0.st.hasCell y (l2 rfl)
      have v := clo_val (acc := []) (fun z d h => by simp at h) h'
      rw [hd] at v
      exact .inr ⟨by rw [hd, v]; rfl, l1⟩
  have hfree : ∀ y, csc.names.lookup y = some .free → ∃ c, (compEnv csc env s.heap.objs.size).cells.lookup y = some c ∧ env.cells.lookup y = some c := by
    intro y hy
    have := clo_has (env := env) (acc := []) (.inl (mem_of_lookup hy))
    obtain ⟨c, h⟩ := Option.isSome_iff_exists.mp this
    have hn : (cellsFrom (s.heap.objs.size + 1) csc.names []).lookup y = none := by
      cases q : (cellsFrom (s.heap.objs.size + 1) csc.names []).lookup y with
      | none => rfl
      | some d =>
        rcases cellsFrom_mem (mem_of_lookup q) with w | w
        · have := (c3 _ w).1; rw [hy] at this; cases this
        · exact nomatch w
    have hl : (compEnv csc env s.heap.objs.size).cells.lookup y = some c := by rw [hcells, List.lookup_append, hn]; exact h
    refine ⟨c, hl, ?_⟩
    rcases hlook y c hl with ⟨_, _, _, w⟩ | ⟨w, _⟩
    · rw [hy] at w; exact nomatch w
    · exact w
  have hkind : ∀ y, (compEnv csc env s.heap.objs.size).kindOf y = (csc.names.lookup y).map fun k => if (k == NameKind.free && env.scope.kind == .function && env.kindOf y == some .cell) = true then NameKind.cell else k := fun y => relabel_lookup csc.names y
  have locNs : (compHeap csc s.heap).Ns s.heap.objs.size fun _ => none := (Heap.Ns.new s.heap (.type "dict")).keeps (pushCells_keeps _ _)
  refine ⟨⟨⟨c1, e0.st.glob, e0.st.blt, fun y k hy => ?_, ⟨_, locNs⟩, R.fresh_not (fresh_none _), lvB.none (fresh_none _), fun y c hy => ?_, fun y hy => ?_, fun y z c hy hz => ?_⟩, by unfold inner; rw [List.length_append, List.length_append, List.length_map, hΓ]; rfl, fun i y mv hi hm => ?_⟩, fun q hx hq => ?_⟩
  · rw [hkind, hy]
    cases k
    case free =>
      simp only [Option.map_some, KindOk]
      split
      · exact .inr rfl
      · exact .inl rfl
    all_goals first | rfl | trivial
  · rcases hlook y c hy with ⟨_, w1, w2, _⟩ | ⟨w, _⟩
    · exact ⟨⟨_, w1⟩, R.fresh_not w2, lvB.none w2⟩
    · refine aNd3 (e0.st.cells y c w) fun zn0 n b => ?_; obtain ⟨v, hv⟩ := zn0
      exact ⟨⟨v, IsCell_keep hv (F.data n)⟩, n, b⟩
  · rcases hy with hy | hy
    · rw [hcells, List.lookup_append]
      obtain ⟨c, h⟩ := Option.isSome_iff_exists.mp (cells_has (n := s.heap.objs.size + 1) (acc := []) (.inl (mem_of_lookup hy)))
      exact ⟨c, by rw [h]; rfl⟩
    · refine ex1 (hfree y hy) fun c zz => aNd2 zz fun h _ => ?_
      exact ⟨c, h⟩
  · rcases hlook y c hy with ⟨w0, w1, w2, _⟩ | ⟨w, _⟩ <;> rcases hlook z c hz with ⟨u0, u1, u2, _⟩ | ⟨u, _⟩
    · exact name_of_addr ok.apart (mem_of_lookup w0) (mem_of_lookup u0)
    · obtain ⟨⟨v, o, ho, _⟩, _⟩ := e0.st.cells z c u
      rw [w2] at ho; cases ho
    · obtain ⟨⟨v, o, ho, _⟩, _⟩ := e0.st.cells y c w
      rw [u2] at ho; cases ho
    · exact e0.st.apart y z c w u
  · by_cases lt : i < ns.length
    · rw [List.getElem?_append_left (by unfold inner; rw [List.length_map]; exact lt)] at hi
      rw [List.getElem?_append_left (by rw [hΓ]; exact lt)] at hm
      unfold inner at hi
      rw [List.getElem?_map] at hi
      cases hn : ns[i]? with
      | none => rw [hn] at hi; exact nomatch hi
      | some oy =>
        rw [hn] at hi
        cases oy with
        | none => cases hi
        | some y' =>
          simp only [Option.map_some, Option.some.injEq] at hi
          split at hi
          · rename_i hf
            cases hi
            refine hideG fun G kG => ?_
            refine ex1 (e0.vals i y mv hn hm) fun v zz => aNd2 zz fun hv vr => ?_
            refine ex1 (hfree y hf) fun c zz => aNd2 zz fun k1 k2 => ?_
            refine kG ?_
            have ks : env.kindOf y = some .cell ∨ env.kindOf y = some .free := by
              rcases (c3 _ (mem_of_lookup hf)).2 rfl with w | w
              · exact .inl (e0.st.kinds y _ w)
              · rcases e0.st.kinds y _ w with w | w
                · exact .inr w
                · exact .inl w
            have hcell : s.heap.IsCell c (some v) := by
              rcases hv with ⟨kd, _⟩ | ⟨_, c', hc', hv⟩
              · rcases ks with w | w <;> rw [w] at kd <;> cases kd
              · rw [k2] at hc'; cases hc'; exact hv
            refine ⟨v, .inr ⟨?_, c, k1, hcell.keeps (compHeap_keep csc s.heap)⟩, vr.step F.step⟩
            rw [hkind, hf]
            simp only [Option.map_some]
            split
            · exact .inl rfl
            · exact .inr rfl
          · cases hi
    · exfalso
      rw [List.getElem?_append_right (by rw [hΓ]; exact o136 lt)] at hm
      cases q : i - Γ.length with
      | zero => rw [q] at hm; simp at hm
      | succ n => rw [q] at hm; simp at hm
  · rcases hlook x q hq with ⟨_, _, w, _⟩ | ⟨_, w⟩
    · exact w
    · rw [hx] at w; cases w
end
end Mine
-- part MLoop
namespace Mine
open PySem
section
variable {cx : Cx} {N : Names} {A : Around} {env : Env} {sc : Scope} {ns : List (Option Str)} {Γ : Env'} {H : Hp} {ρ ρ' : Rho} {s : Shared}
theorem Full.fresh {h h1 h2 : Heap} {q : Addr} (F : Full ρ h ρ' h1) (hq : h.get? q = none) (hs : ∀ b o, b ≠ q → h1.get? b = some o → h2.get? b = some o) : Full ρ h ρ' h2 := by
  have ne : ∀ b o, h.get? b = some o → b ≠ q := fun b o e w => by rw [w, hq] at e; exact nomatch e
  refine ⟨F.grow, fun b o e n => ?_, fun b o e => ?_⟩
  · refine ex1 (F.keep b o e n) fun o' zz => aNd2 zz fun e' u => ?_
    exact ⟨o', hs b o' (ne b o e) e', u⟩
  · obtain ⟨o', e'⟩ := F.live b o e
    exact ⟨o', hs b o' (ne b o e) e'⟩
theorem Full.addOwn {h h1 : Heap} {p : Addr × Addr} (F : Full ρ h ρ' h1) (hp : h.get? p.1 = none ∧ h.get? p.2 = none) : Full ρ h (ρ' ++ [p]) h1 := by
  refine ex1 F.grow fun e zz => aNd2 zz fun hr0 he => ?_; refine Eq.symm hr0 ▸ ?_
  refine ⟨⟨e ++ [p], by rw [List.append_assoc], fun q hq => ?_⟩, F.keep, F.live⟩
  rcases List.mem_append.mp hq with hq | hq
  · exact he q hq
  · rw [List.mem_singleton.mp hq]; exact hp
theorem EnvOk.but {h h' : Heap} {q : Addr} (x : EnvOk cx env sc ns Γ ρ h) (hs : ∀ b o, b ≠ q → h.get? b = some o → h'.get? b = some o) (n1 : q ≠ env.locals) (n2 : ∀ y, env.cells.lookup y ≠ some q) (st : Step ρ h ρ h') : EnvOk cx env sc ns Γ ρ h' := by
  have kl : ∀ o, h.get? env.locals = some o → ∃ o', h'.get? env.locals = some o' ∧ o'.data = o.data := fun o e => ⟨o, hs _ o (fun w => n1 w.symm) e, rfl⟩
  have kc : ∀ y c, env.cells.lookup y = some c → ∀ o, h.get? c = some o → ∃ o', h'.get? c = some o' ∧ o'.data = o.data := fun y c hc o e => ⟨o, hs _ o (fun w => n2 y (w ▸ hc)) e, rfl⟩
  obtain ⟨m, hm⟩ := x.st.loc
  refine ⟨⟨x.st.fn, x.st.glob, x.st.blt, x.st.kinds, ⟨m, Heap_Ns_keep hm kl⟩, x.st.locN, x.st.locB, fun y c hc => ?_, x.st.hasCell, x.st.apart⟩, x.len, fun i y mv hi hm => ?_⟩
  · refine aNd3 (x.st.cells y c hc) fun zn0 a b => ?_; obtain ⟨v, hv⟩ := zn0
    exact ⟨⟨v, IsCell_keep hv (kc y c hc)⟩, a, b⟩
  · refine ex1 (x.vals i y mv hi hm) fun v zz => aNd2 zz fun hv r => ?_
    refine ⟨v, ?_, r.step st⟩
    rcases hv with ⟨k, m, hm, e⟩ | ⟨k, c, hc, e⟩
    · exact .inl ⟨k, m, Heap_Ns_keep hm kl, e⟩
    · exact .inr ⟨k, c, hc, IsCell_keep e (kc y c hc)⟩
theorem Rel.adopt (R : Rel cx H ρ s) {D : Addr} {vs : List Value} {n : Nat} {xs : List Val} (e : s.heap.get? D = some (listO vs n)) (r : VRs cx ρ s.heap xs vs) (z : xs.length ≤ sizeLine) (no : ¬ Owned ρ D) (nb : cx.h₀.get? D = none) :
    Rel cx (H ++ [.list xs]) (ρ ++ [(D, D)]) s ∧ VR cx (ρ ++ [(D, D)]) s.heap (.loc H.length) (.ref D) := by
  have notF : ¬ Fixed (listO vs n) := listO_not.1
  have notC : ∀ C, ¬ IsExcO (listO vs n) C := listO_not.2
  have own : ∀ b, ¬ Owned ρ b → b ≠ D → ¬ Owned (ρ ++ [(D, D)]) b := fun b nb ne ⟨p, hp, h⟩ => by
    rcases List.mem_append.mp hp with hp | hp
    · exact nb ⟨p, hp, h⟩
    · rw [List.mem_singleton.mp hp] at h
      rcases h with h | h <;> exact ne h
  have st : Step ρ s.heap (ρ ++ [(D, D)]) s.heap := ⟨⟨_, rfl⟩, fun b o eb f nb => ⟨eb, own b nb fun w => by rw [w, e] at eb; cases eb; exact notF f⟩, fun b o C eb c nb => ⟨o, eb, c, own b nb fun w => by rw [w, e] at eb; cases eb; exact notC C c⟩⟩
  have nD : ∀ p ∈ ρ, p.1 ≠ D ∧ p.2 ≠ D := fun p hp => ⟨fun w => no ⟨p, hp, .inl w.symm⟩, fun w => no ⟨p, hp, .inr w.symm⟩⟩
  have at' : ∀ {i : Nat} {q : Addr × Addr}, (ρ ++ [(D, D)])[i]? = some q → ρ[i]? = some q ∨ (i = ρ.length ∧ q = (D, D)) := by
    intro i q h
    by_cases lt : i < ρ.length
    · rw [List.getElem?_append_left lt] at h; exact .inl h
    · have hl' := (List.getElem?_eq_some_iff.mp h).1
      have le : i = ρ.length := by rw [List.length_append] at hl'; simp at hl'; exact o1 hl' lt
      subst le
      rw [List.getElem?_append_right (Nat.le_refl _)] at h
      simp at h
      exact .inr ⟨rfl, h.symm⟩
  refine ⟨⟨by rw [List.length_append, List.length_append, R.len]; rfl, fun l ob q hl hq => ?_, fun i j q r hij hi hj => ?_, fun q hq => ?_, R.base, R.sys, R.rest⟩, ?_⟩
  · rcases at' hq with hq | ⟨rfl, rfl⟩
    · have lt : l < H.length := by rw [R.len]; exact (List.getElem?_eq_some_iff.mp hq).1
      rw [List.getElem?_append_left lt] at hl
      exact (R.objs l ob q hl hq).step st fun b ob _ e => e
    · rw [← R.len, List.getElem?_append_right (Nat.le_refl _)] at hl
      simp at hl
      subst hl
      exact .list e (r.step st) z
  · rcases at' hi with hi' | ⟨hi', eq⟩ <;> rcases at' hj with hj' | ⟨hj', er⟩
    · exact R.apart i j q r hij hi' hj'
    · have q := nD _ (List.mem_of_getElem? hi'); rw [er]; exact ⟨⟨q.1, q.1⟩, q.2, q.2⟩
    · have q := nD _ (List.mem_of_getElem? hj'); rw [eq]; exact ⟨⟨q.1.symm, q.2.symm⟩, q.1.symm, q.2.symm⟩
    · exact absurd (hi'.trans hj'.symm) hij
  · rcases List.mem_append.mp hq with hq | hq
    · exact R.new q hq
    · rw [List.mem_singleton.mp hq]; exact ⟨nb, nb⟩
  · rw [R.len]
    exact VR.loc (p := (D, D)) (by rw [List.getElem?_append_right (Nat.le_refl _)]; simp)
structure CInv (cx : Cx) (ρ₁ : Rho) (h₁ : Heap) (D I : Addr) (cenv : Env) (csc : Scope) (ns' : List (Option Str)) (Γ : Env') (xs : List Val) (src : Option Nat) (i : Nat) (done : List Val) (H : Hp) (ρ : Rho) (s : Shared) : Prop where
  full : Full ρ₁ h₁ ρ s.heap
  rel : Rel cx H ρ s
  env : ∃ o, EnvOk cx cenv csc ns' (Γ ++ [o]) ρ s.heap
  it : ItOk cx xs I i ρ s.heap src
  acc : ∃ vs n, s.heap.get? D = some (listO vs n) ∧ VRs cx ρ s.heap done vs
  nD : ¬ Owned ρ D
  nI : ¬ Owned ρ I
variable {Φ : Funs} {l : List Env} {csc : Scope} {x : Str} {cond : MEo} {elt : ME} {ifs : List Expr} {e : Expr}
noncomputable def stepOf (T : Tab) (Φ : Funs) (cond : MEo) (elt : ME) (Γ : Env') (x : Val) : M (Option Val) := (evalC T Φ cond (Γ ++ [some x])).bnd fun b => match b with
  | true => (evalE T Φ elt (Γ ++ [some x])).bnd fun y => .ret (some y)
  | false => .ret none
theorem append_at {D : Addr} {vs : List Value} {n : Nat} {v : Value} {Q : Value → Shared → Prop} {E : Value → Shared → Prop} (g : s.heap.get? D = some (listO vs n)) (z : vs.length ≤ sizeLine)
    (k : ∀ h' n', h'.get? D = some (listO (vs ++ [v]) n') → Heap.SameBut D s.heap h' → Q .none { s with heap := h' }) : wpAny (model cx.prog cx.w) A (call (.builtin "list.append") [.ref D, v]) Q E s := by
  refine call_meets F.slot_list_append ⟨_, g, rfl⟩ F.entry_list_append (F.args_list_append_2 _ _) (list_append D vs.toArray n v (by simpa using z)) ⟨g, ?_⟩
  obtain ⟨n', e⟩ := mapSeq_list vs n (fun x => x.push v)
  refine k _ n' ?_ (Heap.SameBut.update ..)
  rw [Heap.get?_update_self _ g (by skip; rfl), e]
  simp
theorem compL_nil {c : Hp → Bool} {f : Val → M (Option Val)} {H H' : Hp} {r : List Val} (h : compL c f [] H = .ok r H') : c H = true ∧ r = [] ∧ H = H' := by
  have h : (if c H = true then Res.ok [] H else .bad) = Res.ok r H' := h
  by_cases q : c H = true
  · rw [if_pos q] at h; cases h; exact ⟨q, rfl, rfl⟩
  · rw [if_neg q] at h; cases h
theorem compL_cons {c : Hp → Bool} {f : Val → M (Option Val)} {m : Val} {xs : List Val} {H H' : Hp} {rest : List Val} (h : compL c f (m :: xs) H = .ok rest H') :
    c H = true ∧ ∃ r H3, f m H = .ok r H3 ∧ ∃ rest', compL c f xs H3 = .ok rest' H' ∧ rest = (match r with | some y => y :: rest' | none => rest') := by
  unfold compL at h
  by_cases q : c H = true
  · rw [if_pos q] at h
    refine ⟨q, ?_⟩
    cases e1 : f m H with
    | bad => rw [bnd_bad e1] at h; exact nomatch h
    | exc c H3 => rw [bnd_exc e1] at h; exact nomatch h
    | ok r H3 =>
      rw [bnd_ok e1] at h
      cases e2 : compL c f xs H3 with
      | bad => rw [bnd_bad e2] at h; exact nomatch h
      | exc c H4 => rw [bnd_exc e2] at h; cases h
      | ok rest' H4 =>
        rw [bnd_ok e2] at h
        cases h
        exact ⟨r, H3, rfl, rest', e2, rfl⟩
  · rw [if_neg q] at h; exact nomatch h
theorem stepOf_ok {T : Tab} {m : Val} {r : Option Val} {H H3 : Hp} (h : stepOf T Φ cond elt Γ m H = .ok r H3) :
    ∃ b H4, evalC T Φ cond (Γ ++ [some m]) H = .ok b H4 ∧ ((b = false ∧ r = none ∧ H4 = H3) ∨ (b = true ∧ ∃ y, evalE T Φ elt (Γ ++ [some m]) H4 = .ok y H3 ∧ r = some y)) := by
  unfold stepOf at h
  cases e3 : evalC T Φ cond (Γ ++ [some m]) H with
  | bad => rw [bnd_bad e3] at h; exact nomatch h
  | exc c H4 => rw [bnd_exc e3] at h; exact nomatch h
  | ok b H4 =>
    rw [bnd_ok e3] at h
    refine ⟨b, H4, rfl, ?_⟩
    cases b with
    | false => cases h; exact .inl ⟨rfl, rfl, rfl⟩
    | true =>
      refine .inr ⟨rfl, ?_⟩
      dsimp only at h
      cases e4 : evalE T Φ elt (Γ ++ [some m]) H4 with
      | bad => rw [bnd_bad e4] at h; cases h
      | exc c H5 => rw [bnd_exc e4] at h; cases h
      | ok y H5 => rw [bnd_ok e4] at h; cases h; exact ⟨y, rfl, rfl⟩
theorem comp_loop {ρ₁ : Rho} {s₁ : Shared} {D I : Addr} {cenv : Env} {xs ys : List Val} {src : Option Nat} {H₁ H₂ : Hp} {px pos : Pos} {iter : Expr} {R : Result → Shared → Prop} (hh : A.handled = none)
    (hD : s₁.heap.get? D = none) (hI : s₁.heap.get? I = none) (hDI : D ≠ I) (hC : s₁.heap.get? cenv.locals = none) (hX : ∀ q, csc.names.lookup x = some .cell → cenv.cells.lookup x = some q → s₁.heap.get? q = none)
    (hnd : ∀ (i j : Nat) (y : Str), (inner csc ns ++ [some x])[i]? = some (some y) → (inner csc ns ++ [some x])[j]? = some (some y) → i = j) (hΓ : Γ.length = ns.length) (hxk : csc.names.lookup x = some .local ∨ csc.names.lookup x = some .cell)
    (fr : FramesOk cx l ρ₁ s₁.heap) (lvB : Live cx.h₀ s₁.heap)
    (tests : ∀ Γ' : Env', Γ'.length = (inner csc ns ++ [some x]).length → Sim cx A ((Amb.env cx cenv csc (inner csc ns ++ [some x]) Γ').and (Amb.frames cx l)) (forIn ifs true fun c r => if r = true then do let ok ← isTrue c cenv (eval c cenv); pure (ForInStep.yield ok) else pure (ForInStep.yield r)) (evalC cx.T Φ cond Γ') BV)
    (elts : ∀ Γ' : Env', Γ'.length = (inner csc ns ++ [some x]).length → Sim cx A ((Amb.env cx cenv csc (inner csc ns ++ [some x]) Γ').and (Amb.frames cx l)) (eval e cenv) (evalE cx.T Φ elt Γ') (Amb.vr cx))
    (hz : ys.length < sizeLine) {s : Shared} {ρ : Rho} (ci : CInv cx ρ₁ s₁.heap D I cenv csc (inner csc ns ++ [some x]) Γ xs src 0 [] H₁ ρ s) (hres : compL (chk src xs) (stepOf cx.T Φ cond elt Γ) xs H₁ = .ok ys H₂)
    (k : ∀ ρ' s', Full ρ₁ s₁.heap ρ' s'.heap → Rel cx (H₂ ++ [.list ys]) ρ' s' → VR cx ρ' s'.heap (.loc H₂.length) (.ref D) → (∃ m, s'.heap.Ns cenv.locals m) → ¬ Owned ρ' cenv.locals → R (.ok .next) s') :
    codeAny (model cx.prog cx.w) A (.compLoop (.ListComp e [⟨.Name x px, iter, ifs, 0⟩] csc pos) 0 (.ref I) (.ref D) cenv) R s := by
  obtain ⟨Inv, hInv⟩ : ∃ Inv : Nat → Shared → Prop, ∀ n s, Inv n s ↔ ∃ i done H ρ rest, CInv cx ρ₁ s₁.heap D I cenv csc (inner csc ns ++ [some x]) Γ xs src i done H ρ s ∧ i ≤ xs.length ∧ n = xs.length + 1 - i ∧
    compL (chk src xs) (stepOf cx.T Φ cond elt Γ) (xs.drop i) H = .ok rest H₂ ∧ done ++ rest = ys := ⟨_, fun _ _ => Iff.rfl⟩
  refine codeAny_compLoop_tests Inv ?_ (xs.length + 1) ((hInv _ _).mpr ⟨0, [], H₁, ρ, ys, ci, Nat.zero_le _, rfl, hres, rfl⟩)
  intro n s hin
  refine hideG fun G kG => ?_
  refine ex5 ((hInv _ _).mp hin) fun i done H ρ rest zz => aNd5 zz fun ci hi hr0 hr hys => ?_
  refine ex2 ci.acc fun vs nn zz => aNd2 zz fun gD rD => ?_
  obtain ⟨oo, eok⟩ := ci.env
  refine ex1 ci.it.obj fun oI zz => aNd2 zz fun gI iO => ?_
  refine kG ?_
  cases hx : xs[i]? with
  | none =>
    have hlen := List.getElem?_eq_none_iff.mp hx
    rw [List.drop_eq_nil_of_le hlen] at hr
    refine aNd3 (compL_nil hr) fun ck zr1 zr2 => ?_; subst zr1; subst zr2
    rw [List.append_nil] at hys
    subst hys
    refine iter_end hh ci.rel ci.it ck hx fun h' tk he => ?_
    have gD' : h'.get? D = some (listO vs nn) := he D _ hDI gD
    have st : Step ρ s.heap ρ h' := Step.ext gI he iO.not.1 iO.not.2
    have bI : cx.h₀.get? I = none := lvB.none hI
    have R' : Rel cx H ρ { s with heap := h', toks := tk } := ci.rel.same st (fun b o ho eb => he b o (fun w => ci.nI (w ▸ ho)) eb) fun b o eb => he b o (fun w => by rw [w, bI] at eb; exact nomatch eb) (ci.rel.base b o eb)
    obtain ⟨R2, v2⟩ := Rel.adopt (s := { s with heap := h', toks := tk }) R' gD' (rD.step st) (Nat.le_of_lt hz) ci.nD (lvB.none hD)
    have F2 : Full ρ₁ s₁.heap ρ h' := ci.full.fresh hI he
    obtain ⟨m, hm⟩ := eok.st.loc
    have nIl : I ≠ cenv.locals := eok.st.notLoc gI iO.notDict
    refine k _ _ (F2.addOwn ⟨hD, hD⟩) R2 v2 ⟨m, Heap_Ns_keep hm fun o eo => ⟨o, he _ o (fun w => nIl w.symm) eo, rfl⟩⟩ ?_
    intro ⟨p, hp, h⟩
    rcases List.mem_append.mp hp with hp | hp
    · exact eok.st.locN ⟨p, hp, h⟩
    · rw [List.mem_singleton.mp hp] at h
      have : cenv.locals = D := by rcases h with h | h <;> exact h
      exact eok.st.notLoc gD (fun es k q => by cases q) this.symm
  | some m =>
    have lt : i < xs.length := (List.getElem?_eq_some_iff.mp hx).1
    have hdrop : xs.drop i = m :: xs.drop (i + 1) := by
      rw [List.drop_eq_getElem_cons lt]
      rw [List.getElem?_eq_getElem lt] at hx
      cases hx; rfl
    rw [hdrop] at hr
    refine hideG fun G kG => ?_
    refine aNd2 (compL_cons hr) fun ck zz => ex2 zz fun r H3 zz => aNd2 zz fun e1 zz => ex1 zz fun rest' zz => aNd2 zz fun e2 hrest => ?_
    refine kG ?_
    refine iter_item ci.rel ci.it ck hx fun v h' tk hs hlive kk => ?_
    obtain ⟨oI', gI'⟩ := hlive
    have st : Step ρ s.heap ρ h' := Step.but gI' gI hs iO.not.1 iO.not.2
    obtain ⟨vm, it'⟩ := kk st
    have bI : cx.h₀.get? I = none := lvB.none hI
    have R' : Rel cx H ρ { s with heap := h', toks := tk } := ci.rel.but gI' gI hs iO.not.1 iO.not.2 ci.nI bI
    have ext : ∀ b o, b ≠ I → s.heap.get? b = some o → h'.get? b = some o := fun b o nb eb => by rw [hs.2 b nb]; exact eb
    have eok' : EnvOk cx cenv csc (inner csc ns ++ [some x]) (Γ ++ [oo]) ρ h' := eok.but ext (eok.st.notLoc gI iO.notDict) (eok.st.notCell gI iO.notCell) st
    have F' : Full ρ₁ s₁.heap ρ h' := ci.full.fresh hI ext
    have gD' : h'.get? D = some (listO vs nn) := ext D _ hDI gD
    have lenN : (inner csc ns).length = ns.length := by unfold inner; rw [List.length_map]
    have own : isOwn csc (inner csc ns ++ [some x]) ns.length x = true := by
      unfold isOwn
      have e0 : (inner csc ns ++ [some x])[ns.length]? = some (some x) := by rw [List.getElem?_append_right (by rw [lenN]; exact Nat.le_refl _), lenN]; simp
      rw [e0]
      rcases hxk with w | w <;> rw [w] <;> simp
    refine wpAny_assign_Name (store_var (s := { s with heap := h', toks := tk }) (Γ := Γ ++ [oo]) (by rw [List.length_append, List.length_append, hΓ, lenN]; rfl) hnd R' eok' own vm fun h2 tk2 FS R2 eok2 hq => ?_)
    refine hideG fun G kG => ?_
    refine ex2 hq fun q oq zz => aNd3 zz fun hqd hqs gq => ?_
    have set_eq : (Γ ++ [oo]).set ns.length (some m) = Γ ++ [some m] := by
      rw [← hΓ, List.set_append_right _ _ (Nat.le_refl _), Nat.sub_self]; rfl
    rw [set_eq] at eok2
    have qfresh : s₁.heap.get? q = none := by
      rcases hqd with ⟨_, rfl⟩ | ⟨w1, w2⟩
      · exact hC
      · exact hX q w1 w2
    have ext2 : ∀ b o, b ≠ q → h'.get? b = some o → h2.get? b = some o := fun b o nb eb => by rw [hqs.2 b nb]; exact eb
    have F2 : Full ρ₁ s₁.heap ρ h2 := F'.fresh qfresh ext2
    have qD : D ≠ q := by
      rcases hqd with ⟨_, rfl⟩ | ⟨w1, w2⟩
      · exact eok'.st.notLoc gD' (fun es k q => by cases q)
      · exact fun w => eok'.st.notCell gD' (fun v q => by cases q) x (w ▸ w2)
    refine ex1 it'.obj fun oI2 zz => aNd2 zz fun gI2 iO2 => ?_
    refine kG ?_
    have qI : I ≠ q := by
      rcases hqd with ⟨_, rfl⟩ | ⟨w1, w2⟩
      · exact eok'.st.notLoc gI2 iO2.notDict
      · exact fun w => eok'.st.notCell gI2 iO2.notCell x (w ▸ w2)
    have St2 : Step ρ h' ρ h2 := FullS.step eok'.st FS
    have it2 : ItOk cx xs I (i + 1) ρ h2 src := it'.step St2 fun o eo => ext2 I o qI eo
    have rD2 : VRs cx ρ h2 done vs := (rD.step st).step St2
    have gD2 : h2.get? D = some (listO vs nn) := ext2 D _ qD gD'
    have lenG : (Γ ++ [some m]).length = (inner csc ns ++ [some x]).length := by rw [List.length_append, List.length_append, hΓ, lenN]; rfl
    -- the tests
    refine ex2 (stepOf_ok e1) fun b H4 zz => aNd2 zz fun e3 e4 => ?_
    have T := tests (Γ ++ [some m]) lenG H ρ { s with heap := h2, toks := tk2 } R2 ⟨eok2, fr.full F2⟩
    rw [e3] at T
    refine wpAny_mono T (fun b' s3 ⟨ρ3, F3, R3, hb⟩ => ?_) fun _ _ q => q.elim
    have hb' : b' = b := hb
    refine Eq.symm hb' ▸ ?_
    have F3' : Full ρ₁ s₁.heap ρ3 s3.heap := F2.trans F3
    have gD3 : s3.heap.get? D = some (listO vs nn) := F3.keep.exact gD2 ci.nD (fun es k q => by cases q)
    have nD3 : ¬ Owned ρ3 D := F3.grow.not ci.nD gD2
    refine ex1 it2.obj fun oI3 zz => aNd2 zz fun gI3 iO3 => ?_
    have it3 : ItOk cx xs I (i + 1) ρ3 s3.heap src := it2.step F3.step fun o eo => by
      rw [gI3] at eo; cases eo
      exact F3.keep.exact gI3 ci.nI iO3.notDict
    have nI3 : ¬ Owned ρ3 I := F3.grow.not ci.nI gI3
    have rD3 : VRs cx ρ3 s3.heap done vs := rD2.step F3.step
    have eok3 : EnvOk cx cenv csc (inner csc ns ++ [some x]) (Γ ++ [some m]) ρ3 s3.heap := eok2.full F3
    rcases e4 with ⟨rfl, rfl, rfl⟩ | ⟨rfl, y, e4, rfl⟩
    · skip
      exact ⟨xs.length + 1 - (i + 1), by exact o137 lt hr0, (hInv _ _).mpr ⟨i + 1, done, H4, ρ3, rest', ⟨F3', R3, ⟨_, eok3⟩, it3, ⟨vs, nn, gD3, rD3⟩, nD3, nI3⟩, lt, rfl, e2, by rw [← hys, hrest]⟩⟩
    · skip
      have T2 := elts (Γ ++ [some m]) lenG H4 ρ3 s3 R3 ⟨eok3, fr.full F3'⟩
      rw [e4] at T2
      refine wpAny_mono T2 (fun yv s4 ⟨ρ4, F4, R4, hy⟩ => ?_) fun _ _ q => q.elim
      have F4' : Full ρ₁ s₁.heap ρ4 s4.heap := F3'.trans F4
      have gD4 : s4.heap.get? D = some (listO vs nn) := F4.keep.exact gD3 nD3 (fun es k q => by cases q)
      have nD4 : ¬ Owned ρ4 D := F4.grow.not nD3 gD3
      refine ex1 it3.obj fun oI4 zz => aNd2 zz fun gI4 iO4 => ?_
      have it4 : ItOk cx xs I (i + 1) ρ4 s4.heap src := it3.step F4.step fun o eo => by
        rw [gI4] at eo; cases eo
        exact F4.keep.exact gI4 nI3 iO4.notDict
      have nI4 : ¬ Owned ρ4 I := F4.grow.not nI3 gI4
      have rD4 : VRs cx ρ4 s4.heap done vs := rD3.step F4.step
      have eok4 := eok3.full F4
      have hlenD : vs.length < sizeLine := by
        rw [← rD.length]
        have : ys.length = done.length + rest.length := by rw [← hys, List.length_append]
        have : done.length < ys.length := by rw [this, hrest]; simp
        omega
      refine append_at gD4 (Nat.le_of_lt hlenD) fun h5 n5 gD5 hs5 => ?_
      have St5 : Step ρ4 s4.heap ρ4 h5 := Step.but gD5 gD4 hs5 listO_not.1 listO_not.2
      have ext5 : ∀ b o, b ≠ D → s4.heap.get? b = some o → h5.get? b = some o := fun b o nb eb => by rw [hs5.2 b nb]; exact eb
      have R5 : Rel cx H3 ρ4 { s4 with heap := h5 } := R4.but (tk := s4.toks) gD5 gD4 hs5 listO_not.1 listO_not.2 nD4 (lvB.none hD)
      refine ⟨xs.length + 1 - (i + 1), by exact o137 lt hr0, (hInv _ _).mpr ⟨i + 1, done ++ [y], H3, ρ4, rest', ⟨F4'.fresh hD ext5, R5, ⟨_, eok4.but ext5 (eok4.st.notLoc gD4 (fun es k q => by cases q)) (eok4.st.notCell gD4 (fun v q => by cases q)) St5⟩, it4.step St5 fun o eo => ext5 I o (fun w => hDI w.symm) eo, ⟨_, _, gD5, (rD4.step St5).append (.one (hy.step St5))⟩, nD4, nI4⟩, lt, rfl, e2, ?_⟩⟩
      rw [← hys, hrest, List.append_assoc]; rfl
end
end Mine
-- part MCompE
namespace Mine
open PySem
theorem foldedSet_of {i : Expr} (h : notSet i = true) (env : Env) (x : Value) : foldedSetIterable i env x = pure x := by
  cases i <;> first | rfl | cases h
section
variable {cx : Cx} {N : Names} {A : Around} {env : Env} {sc csc : Scope} {ns : List (Option Str)} {Γ : Env'} {H : Hp} {ρ ρ' : Rho} {s : Shared} {Φ : Funs} {l : List Env} {x : Str} {cond : MEo} {elt : ME} {ifs : List Expr} {e : Expr}
theorem Rel.ext (R : Rel cx H ρ s) {h' : Heap} {tk : Nat} {a : Addr} {o : Obj} (e : s.heap.get? a = some o) (hs : Heap.ExtBut a s.heap h') (n1 : ¬ Fixed o) (n2 : ∀ C, ¬ IsExcO o C) (no : ¬ Owned ρ a) (nb : cx.h₀.get? a = none) :
    Rel cx H ρ { s with heap := h', toks := tk } :=
  R.same (Step.ext e hs n1 n2) (fun b ob ho eb => hs b ob (fun q => no (q ▸ ho)) eb) fun b ob eb => hs b ob (fun q => by subst q; rw [nb] at eb; cases eb) (R.base b ob eb)
theorem iter_self {xs : List Val} {I : Addr} {i : Nat} {src : Option Nat} (x : ItOk cx xs I i ρ s.heap src) {Q : Value → Shared → Prop} {E : Value → Shared → Prop} (k : Q (.ref I) s) : wpAny (model cx.prog cx.w) A (pyIter (.ref I)) Q E s := by
  cases x with
  | list hp hi => exact wpAny_pyIter_listiter hi k
  | rng e hi => exact wpAny_pyIter_rangeiter hi k
structure CParts (cx : Cx) (A : Around) (Φ : Funs) (l : List Env) (csc : Scope) (ns' : List (Option Str)) (cond : MEo) (elt : ME) (ifs : List Expr) (e : Expr) : Prop where
  tests : ∀ (cenv : Env) (Γ' : Env'), Γ'.length = ns'.length → Sim cx A ((Amb.env cx cenv csc ns' Γ').and (Amb.frames cx l)) (forIn ifs true fun c r => if r = true then do let ok ← isTrue c cenv (eval c cenv); pure (ForInStep.yield ok) else pure (ForInStep.yield r)) (evalC cx.T Φ cond Γ') BV
  elts : ∀ (cenv : Env) (Γ' : Env'), Γ'.length = ns'.length → Sim cx A ((Amb.env cx cenv csc ns' Γ').and (Amb.frames cx l)) (eval e cenv) (evalE cx.T Φ elt Γ') (Amb.vr cx)
set_option tactic.hygienic true in
theorem inner_inj (hnd : ∀ (i j : Nat) (y : Str), ns[i]? = some (some y) → ns[j]? = some (some y) → i = j) (hx : csc.names.lookup x = some .local ∨ csc.names.lookup x = some .cell) :
    ∀ (i j : Nat) (y : Str), (inner csc ns ++ [some x])[i]? = some (some y) → (inner csc ns ++ [some x])[j]? = some (some y) → i = j := by
  have lenN : (inner csc ns).length = ns.length := by unfold inner; rw [List.length_map]
  have at' : ∀ (i : Nat) (y : Str), (inner csc ns ++ [some x])[i]? = some (some y) → (ns[i]? = some (some y) ∧ csc.names.lookup y = some .free) ∨ (i = ns.length ∧ y = x) := by
    intro i y h
    by_cases lt : i < ns.length
    · rw [List.getElem?_append_left (by rw [lenN]; exact lt)] at h
      unfold inner at h
      rw [List.getElem?_map] at h
      cases hn : ns[i]? with
      | none => rw [hn] at h; cases h
      | some oy =>
        rw [hn] at h
        cases oy with
        | none => cases h
        | some y' =>
          simp only [Option.map_some, Option.some.injEq] at h
          split at h
          · rename_i hf; cases h; exact .inl ⟨rfl, hf⟩
          · cases h
    · rw [List.getElem?_append_right (by rw [lenN]; exact o136 lt), lenN] at h
      cases q : i - ns.length with
      | zero => rw [q] at h; simp at h; exact .inr ⟨by exact o138 q lt, h.symm⟩
      | succ n => rw [q] at h; simp at h
  intro i j y hi hj
  rcases at' i y hi with ⟨a1, a2⟩ | ⟨a1, a2⟩ <;> rcases at' j y hj with ⟨b1, b2⟩ | ⟨b1, b2⟩
  · exact hnd i j y a1 b1
  · subst b2; rcases hx with w | w <;> rw [w] at a2 <;> cases a2
  · subst a2; rcases hx with w | w <;> rw [w] at b2 <;> cases b2
  · exact o139 a1 b1
theorem comp_block (hh : A.handled = none) (hc : compOk sc csc x = true) (hnd : ∀ (i j : Nat) (y : Str), ns[i]? = some (some y) → ns[j]? = some (some y) → i = j) (hΓ : Γ.length = ns.length)
    (pt : CParts cx A Φ l csc (inner csc ns ++ [some x]) cond elt ifs e)
    {v : Val} {xv : Value} {xs ys : List Val} {src : Option Nat} {H₂ : Hp} {px pos : Pos} {iter : Expr} {RR : Value → Addr → Result → Shared → Prop} {E : Value → Shared → Prop}
    (R : Rel cx H ρ s) (e0 : EnvOk cx env sc ns Γ ρ s.heap) (fr : FramesOk cx l ρ s.heap) (vr : VR cx ρ s.heap v xv) (hit : iterOf v H = some (xs, src)) (hres : compL (chk src xs) (stepOf cx.T Φ cond elt Γ) xs H = .ok ys H₂) (hz : ys.length < sizeLine)
    (k : ∀ D C ρ' s', Full ρ s.heap ρ' s'.heap → Rel cx (H₂ ++ [.list ys]) ρ' s' → VR cx ρ' s'.heap (.loc H₂.length) (.ref D) → (∃ m, s'.heap.Ns C m) → ¬ Owned ρ' C → s.heap.get? C = none → RR (.ref D) C (.ok .next) s') :
    wpAny (model cx.prog cx.w) A (pyIter xv) (fun it s₂ => wpAny (model cx.prog cx.w) A (newList []) (fun acc s₃ => wpAny (model cx.prog cx.w) A (newFunctionEnv csc env.globals (cloOf env csc.names []) [] env.qual none .none (some env)) (fun cenv s₄ =>
      codeAny (model cx.prog cx.w) A (.compStart (.ListComp e [⟨.Name x px, iter, ifs, 0⟩] csc pos) 0 it acc { cenv with scope := relabel csc env }) (RR acc cenv.locals) s₄) E s₃) E s₂) E s := by
  refine aNd3 (compOk_parts hc) fun c1 c2 c3 => ?_
  have lvB : Live cx.h₀ s.heap := fun b o e => ⟨o, R.base b o e⟩
  refine iter_start R vr hit fun o go it0 => ?_
  refine wpAny_newObj_type ?_
  refine wpAny_newCompEnv _ ?_
  -- the three heaps
  generalize hs1 : ({ s with heap := s.heap.push o } : Shared) = s1 at it0
  have h1 : s1.heap = s.heap.push o := by rw [← hs1]
  have F1 : Full ρ s.heap ρ s1.heap := by rw [h1]; exact Full.push _ _ _
  have R1 : Rel cx H ρ s1 := by rw [← hs1]; exact R.push o s.toks
  generalize hs2 : ({ s1 with heap := s1.heap.push (listO [] 0) } : Shared) = s2
  have h2 : s2.heap = s1.heap.push (listO [] 0) := by rw [← hs2]
  have F2 : Full ρ s1.heap ρ s2.heap := by rw [h2]; exact Full.push _ _ _
  have R2 : Rel cx H ρ s2 := by rw [← hs2]; exact R1.push (listO [] 0) s1.toks
  have z1 : s1.heap.objs.size = s.heap.objs.size + 1 := by rw [h1, Heap.size_push]
  have z2 : s2.heap.objs.size = s.heap.objs.size + 2 := by rw [h2, Heap.size_push, z1]
  have F12 : Full ρ s.heap ρ s2.heap := F1.trans F2
  have e2 : EnvOk cx env sc ns Γ ρ s2.heap := e0.full F12
  obtain ⟨ce, cf⟩ := comp_env R2 e2 hc hΓ
  have F3 : Full ρ s2.heap ρ (compHeap csc s2.heap) := Full.more (compHeap_keep csc s2.heap)
  have R3 : Rel cx H ρ { s2 with heap := compHeap csc s2.heap } := R2.more (tk := s2.toks) (compHeap_keep csc s2.heap)
  have hDn : s.heap.get? s1.heap.objs.size = none := fresh_le (by rw [z1]; exact Nat.le_succ _)
  have hIn : s.heap.get? s.heap.objs.size = none := fresh_none _
  have hCn : s.heap.get? s2.heap.objs.size = none := fresh_le (by rw [z2]; exact Nat.le_add_right _ _)
  have gD2 : s2.heap.get? s1.heap.objs.size = some (listO [] 0) := by rw [h2]; exact Heap.get?_push_size _ rfl
  have it1 : ItOk cx xs s.heap.objs.size 0 ρ s1.heap src := by rw [h1]; exact it0
  have go1 : s1.heap.get? s.heap.objs.size = some o := by rw [h1]; exact go
  have it3 : ItOk cx xs s.heap.objs.size 0 ρ (compHeap csc s2.heap) src := (it1.step F2.step fun o' eo => by rw [h2]; exact Heap.get?_push_of_some _ eo).step F3.step (compHeap_keep csc s2.heap _)
  have ci : CInv cx ρ s.heap s1.heap.objs.size s.heap.objs.size (compEnv csc env s2.heap.objs.size) csc (inner csc ns ++ [some x]) Γ xs src 0 [] H ρ { s2 with heap := compHeap csc s2.heap } :=
    ⟨F12.trans F3, R3, ⟨none, ce⟩, it3, ⟨[], 0, compHeap_keep csc s2.heap _ _ gD2, .nil⟩, R.fresh_not hDn, R.fresh_not hIn⟩
  have loop : codeAny (model cx.prog cx.w) A (.compLoop (.ListComp e [⟨.Name x px, iter, ifs, 0⟩] csc pos) 0 (.ref s.heap.objs.size) (.ref s1.heap.objs.size) (compEnv csc env s2.heap.objs.size)) (RR (.ref s1.heap.objs.size) s2.heap.objs.size) { s2 with heap := compHeap csc s2.heap } := by
    refine comp_loop (s₁ := s) (ρ₁ := ρ) (l := l) hh hDn hIn (by rw [z1]; exact Nat.succ_ne_self _) hCn (fun q w1 w2 => ?_) (inner_inj hnd c2) hΓ c2 fr lvB (fun Γ' h' => pt.tests _ Γ' h') (fun Γ' h' => pt.elts _ Γ' h') hz ci hres fun ρ' s' F' R' v' m' n' => ?_
    · have := cf q w1 w2
      cases g : s.heap.get? q with
      | none => rfl
      | some ob =>
        obtain ⟨o', eo'⟩ := F12.live q ob g
        rw [this] at eo'; exact nomatch eo'
    · exact k _ _ ρ' s' F' R' v' m' n' hCn
  have key := codeAny_compStart_list loop (iter_self (ρ := ρ) (s := { s2 with heap := compHeap csc s2.heap }) it3 loop)
  refine Eq.symm hs2 ▸ ?_
  exact key
theorem compPost_mono {E E' : Value → Shared → Prop} {use : Option (Value → Sem Unit)} {Q Q' : Value → Shared → Prop} {acc : Value} {C : Addr} {r : Result} {s' : Shared} {M : Model} (h : compPost M A E use Q acc C r s') (k1 : ∀ a s, Q a s → Q' a s) (k2 : ∀ e s, E e s → E' e s) : compPost M A E' use Q' acc C r s' := by
  unfold compPost at h ⊢
  cases r with
  | ok f =>
    cases use with
    | none => refine ex1 h fun m zz => aNd2 zz fun hm h => ?_; exact ⟨m, hm, fun h' hs => k1 _ _ (h h' hs)⟩
    | some u => exact wpAny_mono h (fun _ s'' ⟨m, hm, h⟩ => ⟨m, hm, fun h' hs => k1 _ _ (h h' hs)⟩) k2
  | error x =>
    cases use with
    | none => refine ex1 h fun m zz => aNd2 zz fun hm h => ?_; exact ⟨m, hm, fun h' hs c hc => wpAny_mono (h h' hs c hc) (fun _ _ q => q) k2⟩
    | some u => refine ex1 h fun m zz => aNd2 zz fun hm h => ?_; exact ⟨m, hm, fun h' hs c hc => wpAny_mono (h h' hs c hc) (fun _ _ q => q) k2⟩
theorem quiet_ok {α : Type} {m : M α} {H H' : Hp} {a : α} (h : M.quiet m H = .ok a H') : m H = .ok a H' := by
  unfold M.quiet at h
  split at h
  · cases h
  · exact h
set_option tactic.hygienic true in
theorem quiet_exc {α : Type} {m : M α} {H H' : Hp} {c : Nat} (h : M.quiet m H = .exc c H') : False := by
  unfold M.quiet at h
  split at h
  · cases h
  · rename_i q; exact q c H' h
noncomputable def compRest (T : Tab) (Φ : Funs) (cond : MEo) (elt : ME) (Γ : Env') (v : Val) : M Val := (M.look (iterOf v)).bnd fun p =>
  (M.quiet (compL (chk p.2 p.1) (stepOf T Φ cond elt Γ) p.1)).bnd fun ys => if ys.length < lid then M.alloc (.list ys) else .bad
theorem comp_eval (T : Tab) (Φ : Funs) (cond : MEo) (elt it : ME) (Γ : Env') : evalE T Φ (.comp elt it cond) Γ = (evalE T Φ it Γ).bnd (compRest T Φ cond elt Γ) := by
  rfl
theorem compRest_cases {T : Tab} {Φ : Funs} {cond : MEo} {elt : ME} {Γ : Env'} {v : Val} {H : Hp} : compRest T Φ cond elt Γ v H = .bad ∨
    ∃ xs src ys H₂, iterOf v H = some (xs, src) ∧ compL (chk src xs) (stepOf T Φ cond elt Γ) xs H = .ok ys H₂ ∧ ys.length < sizeLine ∧ compRest T Φ cond elt Γ v H = .ok (.loc H₂.length) (H₂ ++ [.list ys]) := by
  unfold compRest
  cases e1 : iterOf v H with
  | none => left; rw [bnd_bad (look_none e1)]
  | some p =>
    rw [bnd_ok (look_some e1)]
    obtain ⟨xs, src⟩ := p
    dsimp only
    cases e2 : M.quiet (compL (chk src xs) (stepOf T Φ cond elt Γ) xs) H with
    | bad => left; rw [bnd_bad e2]
    | exc c H' => exact (quiet_exc e2).elim
    | ok ys H₂ =>
      rw [bnd_ok e2]
      by_cases q : ys.length < lid
      · right
        refine ⟨xs, src, ys, H₂, rfl, quiet_ok e2, by skip; exact q, ?_⟩
        rw [if_pos q]; rfl
      · left; rw [if_neg q]; rfl
theorem nsO_not {h : Heap} {C : Addr} {m : Str → Option Value} (n : h.Ns C m) : ∃ o, h.get? C = some o ∧ ¬ Fixed o ∧ ∀ D, ¬ IsExcO o D := by
  refine hideG fun G kG => ?_
  refine ex3 n fun o es ep zz => aNd3 zz fun e d _ => ?_
  refine kG ?_
  exact ⟨o, e, fun f => f.notDict _ _ d, fun D f => f.notDict _ _ d⟩
theorem eok_comp (hh : A.handled = none) {it : ME} {i : Expr} {px pos : Pos} (hi : notSet i = true) (hc : compOk sc csc x = true) (hnd : ∀ (i j : Nat) (y : Str), ns[i]? = some (some y) → ns[j]? = some (some y) → i = j) (hΓ : Γ.length = ns.length)
    (pt : CParts cx A Φ l csc (inner csc ns ++ [some x]) cond elt ifs e) (y : EOk cx A ((Amb.env cx env sc ns Γ).and (Amb.frames cx l)) Φ env Γ it i) :
    EOk cx A ((Amb.env cx env sc ns Γ).and (Amb.frames cx l)) Φ env Γ (.comp elt it cond) (.ListComp e [⟨.Name x px, i, ifs, 0⟩] csc pos) := by
  refine aNd3 (compOk_parts hc) fun c1 c2 c3 => ?_
  refine EOk.of ?_ rfl
  intro H ρ s R p
  rw [comp_eval]
  refine SimAt.bindK (K' := fun Q E s => wpAny (model cx.prog cx.w) A (eval (.ListComp e [⟨.Name x px, i, ifs, 0⟩] csc pos) env) Q E s)
    (K := fun xv Q E s => wpAny (model cx.prog cx.w) A (pyIter xv) (fun it s₂ => wpAny (model cx.prog cx.w) A (newList []) (fun acc s₃ => wpAny (model cx.prog cx.w) A (newFunctionEnv csc env.globals (cloOf env csc.names []) [] env.qual none .none (some env)) (fun cenv s₄ =>
      codeAny (model cx.prog cx.w) A (.compStart (.ListComp e [⟨.Name x px, i, ifs, 0⟩] csc pos) 0 it acc { cenv with scope := relabel csc env }) (compPost (model cx.prog cx.w) A E none Q acc cenv.locals) s₄) E s₃) E s₂) E s) (y.val H ρ s R p) ?_ ?_ ?_
  · intro b xv H1 ρ1 s1 _ F1 R1 vr
    rcases compRest_cases (T := cx.T) (Φ := Φ) (cond := cond) (elt := elt) (Γ := Γ) (v := b) (H := H1) with w | ⟨xs, src, ys, H₂, w1, w2, w3, w4⟩
    · rw [w]; trivial
    · rw [w4]
      refine comp_block hh hc hnd hΓ pt R1 (p.1.full F1) (p.2.full F1) vr w1 w2 w3 fun D C ρ' s' F' R' v' m' n' hC => ?_
      refine hideG fun G kG => ?_
      obtain ⟨m, hm⟩ := m'
      refine ex1 (nsO_not hm) fun oC zz => aNd3 zz fun gC nf nx => ?_
      refine kG ?_
      have lvB : Live cx.h₀ s1.heap := fun b o e => ⟨o, R1.base b o e⟩
      refine ⟨m, hm, fun h' hs => ?_⟩
      have st : Step ρ' s'.heap ρ' h' := Step.ext gC hs.extBut nf nx
      exact ⟨ρ', F'.fresh hC hs.extBut, R'.ext (tk := s'.toks) gC hs.extBut nf nx n' (lvB.none hC), v'.step st⟩
  · intro xv Q E Q' E' s h k1 k2
    exact wpAny_mono h (fun it s₂ h2 => wpAny_mono h2 (fun acc s₃ h3 => wpAny_mono h3 (fun cenv s₄ h4 => codeAny_mono h4 fun r s' hr => compPost_mono hr k1 k2) k2) k2) k2
  · intro Q E h
    exact wpAny_comprehension_free (use := none) (g := ⟨.Name x px, i, ifs, 0⟩) (gs := []) rfl (fun xv => foldedSet_of hi env xv)
      (closureFor_eq fun p' hp' hf => p.1.st.hasCell p'.1 (by rcases (c3 p' hp').2 hf with w | w; exact .inl w; exact .inr w)) c1 (fun p' hp' hl => by rw [(c3 p' hp').1, hl]) h
end
end Mine
-- part MInst
namespace Mine
open PySem
section
variable {cx : Cx} {N : Names} {A : Around} {Φ : Funs} {l : List Env} {d : Nat} {env : Env} {sc : Scope} {ns : List (Option Str)} {Γ : Env'} {H : Hp} {ρ : Rho} {s : Shared}
theorem VR.handed {m : Val} {v : Value} {h : Heap} (x : VR cx ρ h m v) : handedOut v = pure v := by cases x <;> rfl
theorem Rel.instAt (R : Rel cx H ρ s) {i c : Nat} {fs : List (Nat × Val)} {p : Addr × Addr} (hH : H[i]? = some (.inst c fs)) (hρ : ρ[i]? = some p) :
    ∃ C o mA, (cx.T.meth c 0).isSome = true ∧ cx.cls[c]? = some (.ref C) ∧ s.heap.get? p.1 = some o ∧ o.cls = .ref C ∧ (∀ c, o.data ≠ .cls c) ∧ o.dict = some p.2 ∧ p.2 ≠ p.1 ∧ s.heap.Ns1 p.2 mA ∧
      (∀ n v, fs.lookup n = some v → ∃ y x, cx.attrs[n]? = some y ∧ mA y = some x ∧ VR cx ρ s.heap v x) ∧ (∀ y, mA y ≠ none → ∃ n v, cx.attrs[n]? = some y ∧ fs.lookup n = some v) := by
  have := R.objs i _ p hH hρ
  generalize ho : HObj.inst c fs = o at this
  cases this with
  | list _ _ _ => exact nomatch ho
  | dict _ _ _ => cases ho
  | hid _ => cases ho
  | inst k0 k e k1 k2 k3 k4 n f g => cases ho; exact ⟨_, _, _, k0, k, e, k1, k2, k3, k4, n, f, g⟩
theorem inst_of {h : Heap} {a b C : Addr} {o : Obj} {mA : Str → Option Value} (e : h.get? a = some o) (k1 : o.cls = .ref C) (k2 : ∀ c, o.data ≠ .cls c) (k3 : o.dict = some b) (k4 : b ≠ a) (n : h.Ns1 b mA) : h.Inst a C mA :=
  ⟨o, e, k1, k2, .inr ⟨b, k3, k4, n⟩⟩
theorem SimK.looks {α β : Type} {f : Hp → Option β} {K : (α → Shared → Prop) → (Value → Shared → Prop) → Shared → Prop} {V : β → α → Amb} (y : ∀ b, f H = some b → SimK cx (.ok b H) K V ρ s) : SimK cx (M.look f H) K V ρ s := by
  cases e : f H with
  | none => rw [look_none e]; trivial
  | some b => rw [look_some e]; exact y b e
theorem wp_getattr (CB : ClsBase cx N) (R : Rel cx H ρ s) {i c n : Nat} {fs : List (Nat × Val)} {p : Addr × Addr} {y : Str} {m : Val} (hH : H[i]? = some (.inst c fs)) (hρ : ρ[i]? = some p) (hy : cx.attrs[n]? = some y) (hm : fs.lookup n = some m) {Q : Value → Shared → Prop} {E : Value → Shared → Prop}
    (k : ∀ v tk, VR cx ρ s.heap m v → Q v { s with toks := tk }) : wpAny (model cx.prog cx.w) A (getAttr (.ref p.1) y true) Q E s := by
  refine hideG fun G kG => ?_
  refine ex3 (R.instAt hH hρ) fun C o mA zz => aNd10 zz fun k0 kc e k1 k2 k3 k4 nn f g => ?_
  refine ex14 ((CB.cls c C kc k0).is) fun nm q Nn bs sn sub col dd q0 q1 q2 q3 q5 mN zz => aNd7 zz fun hC hN h1 h2 h3 h4 h5 => ?_
  refine ex2 (f n m hm) fun y' x zz => aNd3 zz fun hy' hx vr => ?_
  refine kG ?_
  rw [hy] at hy'; cases hy'
  exact load_attr (R.base _ _ hC) (hN.keeps R.base) h1 (h4 n y hy).1 (h4 n y hy).2 (inst_of e k1 k2 k3 k4 nn) hx vr.handed (k x _ vr)
set_option tactic.hygienic true in
theorem eok_attr (CB : ClsBase cx N) {P : Amb} {a : ME} {n : Nat} {v : Expr} {y : Str} {pos : Pos} (hn : hasNo N.attrs y n = true) (hs : notSuper v = true) (x : EOk cx A P Φ env Γ a v) :
    EOk cx A P Φ env Γ (.attr a n) (.Attribute v y pos) := by
  refine EOk.of ?_ rfl
  intro H ρ s R p
  refine SimAt.bindK (K' := fun Q E s => wpAny (model cx.prog cx.w) A (eval (.Attribute v y pos) env) Q E s) (K := fun o Q E s => wpAny (model cx.prog cx.w) A (getAttr o y true) Q E s) (x.val H ρ s R p) ?_ (fun _ => monoK_wp _) ?_
  · intro b o H1 ρ1 s1 _ F1 R1 vr
    have vr' : VR cx ρ1 s1.heap b o := vr
    refine SimK.looks fun m hm => ?_
    split at hm
    · rename_i i
      refine ex1 vr'.loc_inv fun p1 zz => aNd2 zz fun hp1 hr0 => ?_; refine Eq.symm hr0 ▸ ?_
      split at hm
      · rename_i c fs hi
        exact wp_getattr CB R1 hi hp1 (CB.attr y n (hasNo_eq hn)) hm fun v tk vr => ⟨ρ1, Full.refl _ _, R1.toks tk, vr⟩
      · cases hm
    · cases hm
  · intro Q E h
    rw [arm_eval_Attribute, attributeBase_of hs]
    exact wpAny_bind (wpAny_mono h (fun o s₁ h₁ => wpAny_bind (wpAny_standAt (wpAny_bind (wpAny_holding (wpAny_mono h₁ (fun r s₂ h₂ => wpAny_bind (wpAny_letTemporaryGo (wpAny_pure h₂))) fun _ _ q => q))))) fun _ _ q => q)
theorem fput_self : ∀ (fs : List (Nat × Val)) (n : Nat) (v : Val), (fput fs n v).lookup n = some v
  | [], n, v => by simp [fput]
  | (m, u) :: r, n, v => by
    unfold fput
    by_cases e : m = n
    · rw [if_pos e, e]; simp
    · rw [if_neg e, List.lookup_cons]
      have : (n == m) = false := by simpa using fun q : n = m => e q.symm
      rw [this]; exact fput_self r n v
theorem fput_other : ∀ (fs : List (Nat × Val)) (n k : Nat) (v : Val), k ≠ n → (fput fs n v).lookup k = fs.lookup k
  | [], n, k, v, h => by
    have : (k == n) = false := by simpa using h
    simp [fput, List.lookup_cons, this]
  | (m, u) :: r, n, k, v, h => by
    unfold fput
    by_cases e : m = n
    · rw [if_pos e, e, List.lookup_cons, List.lookup_cons]
      have : (k == n) = false := by simpa using h
      rw [this]
    · rw [if_neg e, List.lookup_cons, List.lookup_cons, fput_other r n k v h]
theorem wp_setattr (CB : ClsBase cx N) (R : Rel cx H ρ s) {i c n : Nat} {fs : List (Nat × Val)} {p : Addr × Addr} {y : Str} {m : Val} {v : Value} (hH : H[i]? = some (.inst c fs)) (hρ : ρ[i]? = some p) (hy : cx.attrs[n]? = some y) (vr : VR cx ρ s.heap m v) {Q : Unit → Shared → Prop} {E : Value → Shared → Prop}
    (k : ∀ s', Full ρ s.heap ρ s'.heap → Rel cx (H.set i (.inst c (fput fs n m))) ρ s' → Q () s') : wpAny (model cx.prog cx.w) A (setAttr (.ref p.1) y v) Q E s := by
  refine hideG fun G kG => ?_
  refine ex3 (R.instAt hH hρ) fun C o mA zz => aNd10 zz fun k0 kc e k1 k2 k3 k4 nn f g => ?_
  refine ex14 ((CB.cls c C kc k0).is) fun nm q Nn bs sn sub col dd q0 q1 q2 q3 q5 mN zz => aNd7 zz fun hC hN h1 h2 h3 h4 h5 => ?_
  refine kG ?_
  have hxC : p.1 ≠ C := fun w => by have := (R.new p (List.mem_of_getElem? hρ)).1; rw [w, hC] at this; cases this
  refine store_attr F.store_object (R.base _ _ hC) (hN.keeps R.base) h3 (h4 n y hy).1 (h4 n y hy).2 hxC (inst_of e k1 k2 k3 k4 nn) (fun h' tk' I' hk hsame => ?_)
    (ns := cx.attrs) (fun z hz => by refine ex2 (g z hz) fun j _ zz => aNd2 zz fun hj _ => ?_; exact List.mem_of_getElem? hj) CB.few
  refine hideG fun G kG => ?_
  refine ex1 (hsame o e) fun o₁ zz => aNd5 zz fun e1 c1 d1 _ dd1 => ?_
  refine ex1 I' fun o₂ zz => aNd4 zz fun e2 c2 n2 hd2 => ?_
  refine kG ?_
  rw [e1] at e2; cases e2
  have nn' : h'.Ns1 p.2 (fun z => if z = y then some v else mA z) := by
    rcases hd2 with ⟨w, _⟩ | ⟨b, w, _, w2⟩
    · rw [dd1 _ k3] at w; cases w
    · rw [dd1 _ k3] at w; cases w; exact w2
  have keep : ∀ b ob, s.heap.get? b = some ob → b ≠ p.1 → b ≠ p.2 → h'.get? b = some ob := fun b ob eb w1 w2 => hk b ob w1 (fun o₀ dx f1 f2 => by rw [e] at f1; cases f1; rw [k3] at f2; cases f2; exact w2) eb
  have lv : Live s.heap h' := fun b ob eb => by
    by_cases w1 : b = p.1
    · rw [w1]; exact ⟨o₁, e1⟩
    · by_cases w2 : b = p.2
      · refine ex3 nn' fun on _ _ zz => aNd2 zz fun en _ => ?_; rw [w2]; exact ⟨on, en⟩
      · exact ⟨ob, keep b ob eb w1 w2⟩
  have own : ∀ b, ¬ Owned ρ b → b ≠ p.1 ∧ b ≠ p.2 := fun b n => ⟨fun e => n ⟨p, List.mem_of_getElem? hρ, .inl e⟩, fun e => n ⟨p, List.mem_of_getElem? hρ, .inr e⟩⟩
  have F : Full ρ s.heap ρ h' := ⟨Grow.refl _ _, fun b ob eb n => ⟨ob, keep b ob eb (own b n).1 (own b n).2, .refl ob⟩, lv⟩
  obtain ⟨_, R'⟩ := R.set (tk := tk') (o := .inst c (fput fs n m)) hρ keep lv (by
    obtain ⟨p1, p2⟩ := p
    refine .inst k0 kc e1 (c1.trans k1) n2 (dd1 _ k3) k4 nn' (fun j u hj => ?_) (fun z hz => ?_)
    · by_cases w : j = n
      · subst w
        rw [fput_self] at hj; cases hj
        exact ⟨y, v, hy, by simp, vr.step F.step⟩
      · rw [fput_other _ _ _ _ w] at hj
        refine ex2 (f j u hj) fun y' x zz => aNd3 zz fun hy' hx vx => ?_
        have ne : y' ≠ y := fun q => w (CB.inj j n y (q ▸ hy') hy)
        exact ⟨y', x, hy', by simp [ne, hx], vx.step F.step⟩
    · by_cases w : z = y
      · exact ⟨n, m, w ▸ hy, fput_self _ _ _⟩
      · simp only [w, if_false] at hz
        refine ex2 (g z hz) fun j u zz => aNd2 zz fun hj hu => ?_
        have ne : j ≠ n := fun q => w (by rw [q, hy] at hj; cases hj; rfl)
        exact ⟨j, u, hj, by rw [fput_other _ _ _ _ ne]; exact hu⟩)
  exact k _ F R'
theorem wpAny_Call_own {o : Expr} {name : Str} {apos pos : Pos} {args : List Expr} {Q : Value → Shared → Prop} {E : Value → Shared → Prop} (hs : notSuper o = true) (hp : plainArgs env args) (hz : args.length ≤ 20) (hline : (apos.endLine == pos.line) = true)
    (h : wpAny (model cx.prog cx.w) A (eval o env) (fun ov s₁ => ∀ pl, wpAny (model cx.prog cx.w) A (getMethod ov name pl) (fun r s₂ => wpAny (model cx.prog cx.w) A (callWith pos r.1 r.2 (args.map fun e => (false, eval e env)) []) Q E s₂) E s₁) E s) :
    wpAny (model cx.prog cx.w) A (eval (.Call (.Attribute o name apos) args [] pos) env) Q E s := by
  rw [arm_eval_Call, attributeBase_of hs]
  refine wpAny_bind (wpAny_mono h (fun ov s₁ h₁ => ?_) fun _ _ e => e)
  refine wpAny_bind (wpAny_standAt ?_)
  have hform : methodCallForm (args.length + ([] : List Keyword).length) (backTo pos (starEach args env)) (backToKw pos (keywordEach [] env)) = true := plainArgs_few hp hz
  have hpos : methodCallPos true o env apos pos = pure pos := by unfold methodCallPos; simp [hline]
  unfold methodCall
  rw [hform, plainArgs_trees pos hp]
  refine wpAny_bind (wpAny_holding (wpAny_mono (h₁ _) (fun r s₂ h₂ => ?_) fun _ _ e => e))
  exact wpAny_bind (wpAny_of_eq hpos h₂)
theorem umeth_some {T : Tab} {v : Val} {m k : Nat} (h : (match v with | .loc i => (match H[i]? with | some (.inst c _) => T.meth c m | _ => none) | _ => none) = some k) : ∃ i c fs, v = .loc i ∧ H[i]? = some (.inst c fs) ∧ T.meth c m = some k := by
  split at h
  · split at h
    · exact ⟨_, _, _, rfl, by assumption, h⟩
    · exact nomatch h
  · cases h
theorem eok_umeth (CB : ClsBase cx N) (hΦ : FunsOk cx Φ d) (room : Room A d) (hfr : A.frames = some l) {a : ME} {m : Nat} {es : MEs} {o : Expr} {y : Str} {apos pos : Pos} {xs : List Expr} (hm : hasNo N.meths y m = true) (hes : ckEs N sc ns es xs = true) (hz : xs.length ≤ 20) (hs : notSuper o = true) (hline : (apos.endLine == pos.line) = true)
    (x : EOk cx A ((Amb.env cx env sc ns Γ).and (Amb.frames cx l)) Φ env Γ a o) (y' : Sim cx A ((Amb.env cx env sc ns Γ).and (Amb.frames cx l)) (spliced (xs.map fun e => (false, eval e env))) (evalEs cx.T Φ es Γ) (Amb.vrs cx)) :
    EOk cx A ((Amb.env cx env sc ns Γ).and (Amb.frames cx l)) Φ env Γ (.umeth a m es) (.Call (.Attribute o y apos) xs [] pos) := by
  refine EOk.of ?_ rfl
  intro H ρ s R p
  first | rw [ev_call] | rw [ev_new] | rw [ev_umeth] | rw [ev_bf] | rw [ev_isinst] | rw [ev_bm]
  refine SimAt.bindK (K' := fun Q E s => wpAny (model cx.prog cx.w) A (eval (.Call (.Attribute o y apos) xs [] pos) env) Q E s) (K := fun ov Q E s => ∀ pl, wpAny (model cx.prog cx.w) A (getMethod ov y pl) (fun r s₂ => wpAny (model cx.prog cx.w) A (callWith pos r.1 r.2 (xs.map fun e => (false, eval e env)) []) Q E s₂) E s) (x.val H ρ s R p) ?_ ?_
    (fun Q E h => wpAny_Call_own hs (ckEs_plain hes) hz hline h)
  · intro b ov H1 ρ1 s1 _ F1 R1 vr
    have vr' : VR cx ρ1 s1.heap b ov := vr
    refine SimK.lookK fun k hk => ?_
    refine hideG fun G kG => ?_
    refine ex3 (umeth_some hk) fun i c fs zz => aNd3 zz fun zr3 hi hk' => ?_; subst zr3
    refine ex1 vr'.loc_inv fun p1 zz => aNd2 zz fun hp1 zr2 => ?_; subst zr2
    refine ex3 (R1.instAt hi hp1) fun C ob mA zz => aNd10 zz fun k0 kc e k1 k2 k3 k4 nn f g => ?_
    refine ex14 ((CB.cls c C kc k0).is) fun nm q Nn bs sn sub col dd q0 q1 q2 q3 q5 mN zz => aNd7 zz fun hC hN h1 h2 h3 h4 h5 => ?_
    refine ex3 (h5 y m k (hasNo_eq hm) hk') fun fa fo fd zz => aNd7 zz fun hfa hmN hfo hfc hfd hna zz => ex1 zz fun r hr => ?_
    refine kG ?_
    have hmA : mA y = none := by
      cases w : mA y with
      | none => rfl
      | some z => refine ex2 (g y (by rw [w]; exact fun q => nomatch q)) fun j _ zz => aNd2 zz fun hj _ => ?_; exact absurd hj (hna j)
    refine SimK.mono (simK_args (f := .ref fa) (K := fun vs Q E s => (s.heap.get? fa = some fo ∧ fo.data = .func fd) ∧ wpAny (model cx.prog cx.w) A (call (.ref fa) (.ref p1.1 :: vs)) Q E s) (fun e => ckEs_nil (e ▸ hes)) R1 (y' H1 ρ1 s1 R1 (((Amb.env cx env sc ns Γ).and (Amb.frames cx l)).st _ _ _ _ p F1)) ?_ ?_) ?_
    · intro ms vs H2 ρ2 s2 _ F2 R2 vrs
      exact SimK.andK ⟨R2.base _ _ hfo, hfd⟩ (hΦ k fa (.loc i :: ms) (.ref p1.1 :: vs) A l hfa room.toF hfr H2 ρ2 s2 R2 ⟨.cons (VR.step F2.step vr) vrs, (p.2.full F1).full F2⟩)
    · exact fun vs Q E Q' E' s h k1 k2 => ⟨h.1, wpAny_mono h.2 k1 k2⟩
    · intro Q E h pl
      refine method_of (R1.base _ _ hC) (hN.keeps R1.base) h1 h2 hmN (R1.base _ _ hfo) hfc hr (inst_of e k1 k2 k3 k4 nn) hmA ?_
      exact Calls.callWith_function (o := fo) (fd := fd) (wpAny_mono h (fun b s₁ h₁ => by rw [h₁.1]; exact h₁.2) fun _ _ q => q)
  · exact fun ov Q E Q' E' s h k1 k2 pl => wpAny_mono (h pl) (fun r s₂ h₂ => wpAny_mono h₂ k1 k2) k2
theorem callWith_own {nm q : Str} {C Nn : Addr} {bs : List Value} {sn : List Str} {sub : List Value} {col : Option Bool} {dd : Option Addr} {k0 k1 k2 k3 k5 : Option Value} {pos : Pos} {args : List (Bool × Sem Value)} {Q : Value → Shared → Prop} {E : Value → Shared → Prop} (hplain : args.any (·.1) = false)
    (h : wpAny (model cx.prog cx.w) A (evalArgs (.ref C) true args []) (fun as s₁ => as.kw = [] ∧ s₁.heap.get? C = some (excClassObj nm q C Nn bs [.type "object"] true sn sub false col dd k0 k1 k2 k3 k5 "object.__new__") ∧ wpAny (model cx.prog cx.w) A (call (.ref C) as.pos) Q E s₁) E s) :
    wpAny (model cx.prog cx.w) A (callWith pos (.ref C) [] args []) Q E s := by
  unfold callWith
  refine wpAny_bind (wpAny_holding (wpAny_mono h (fun as s₁ h₁ => ?_) fun _ _ x => x))
  refine aNd3 h₁ fun e hC hc => ?_
  obtain ⟨ps, kw⟩ := as
  dsimp only at e hc
  subst e
  obtain ⟨hh, g, dr, t, os⟩ := s₁
  have f1 := tc_lookup
  have hT : (⟨hh, g, dr, t, os⟩ : Shared).TypeIs (.ref C) "type" := ⟨_, hC, rfl⟩
  refine wpAny_bind (wpAny_standAt ?_)
  unfold keeperOf specialOf
  repeat (any_goals (first | assumption | with_reducible refine wpAny_loadPart_at hC ?_ | with_reducible refine wpAny_load' hC ?_ | wp_step))
  rw [if_pos (by rfl), hplain]
  exact wpAny_bind (wpAny_mono hc (fun r s' hr => wpAny_bind (wpAny_holding (wpAny_point (wpAny_pure hr)))) fun _ _ x => x)
theorem Room.made {C : Addr} {vs : List Value} (r : Room A d) : RoomF (A.under (.builtin "type.__call__" ⟨.ref C :: vs, []⟩)) d := by
  refine ⟨r.hh, ?_, ?_⟩
  · show A.depth + 1 + 5 * d + 147 < recursionLimit
    have := r.depth; exact o140 this
  · show A.units + 1 + 20 * d + 90 < cLine
    have := r.units; exact o141 this
theorem newV_some {T : Tab} {c k : Nat} {ms : List Val} (h : T.meth c 0 = some k) : newV T Φ c ms H = (match Φ k (.loc H.length :: ms) (H ++ [.inst c []]) with
    | .ok r H' => (match r with | .none => Res.ok (.loc H.length) H' | _ => .bad)
    | .exc e H' => .exc e H'
    | .bad => .bad) := by
  unfold newV
  rw [h]
  show M.bnd _ _ _ = _
  rw [bnd_ok (show M.alloc (.inst c []) H = .ok (.loc H.length) (H ++ [.inst c []]) from rfl)]
  cases e : Φ k (.loc H.length :: ms) (H ++ [.inst c []]) with
  | bad => rw [bnd_bad e]
  | exc x H' => rw [bnd_exc e]
  | ok r H' => rw [bnd_ok e]; cases r <;> rfl
theorem simK_new (CB : ClsBase cx N) (hΦ : FunsOk cx Φ d) (room : Room A d) (hfr : A.frames = some l) {c : Nat} {C : Addr} {ms : List Val} {vs : List Value} (hc : cx.cls[c]? = some (.ref C)) (R : Rel cx H ρ s) (vrs : VRs cx ρ s.heap ms vs) (fr : FramesOk cx l ρ s.heap) :
    SimK cx (newV cx.T Φ c ms H) (fun Q E s => wpAny (model cx.prog cx.w) A (call (.ref C) vs) Q E s) (Amb.vr cx) ρ s := by
  cases hk : cx.T.meth c 0 with
  | none => unfold newV; rw [hk]; trivial
  | some k =>
    have hks : (cx.T.meth c 0).isSome = true := by rw [hk]; rfl
    refine hideG fun G kG => ?_
    refine ex14 ((CB.cls c C hc hks).is) fun nm q Nn bs sn sub col dd q0 q1 q2 q3 q5 mN zz => aNd7 zz fun hC hN h1 h2 h3 h4 h5 => ?_
    refine ex3 (h5 _ 0 k CB.init hk) fun fa fo fd zz => aNd7 zz fun hfa hmN hfo hfc hfd hna _ => ?_
    refine kG ?_
    rw [newV_some hk]
    have main : ∀ (Q : Value → Shared → Prop) (E : Value → Shared → Prop), (∀ h' x dx, Heap.MadeObj s.heap h' x dx C → wpAny (model cx.prog cx.w) (A.under (.builtin "type.__call__" ⟨.ref C :: vs, []⟩)) (call (.ref fa) (.ref x :: vs)) (fun r s' => r = .none ∧ Q (.ref x) s') E { s with heap := h' }) → wpAny (model cx.prog cx.w) A (call (.ref C) vs) Q E s := by
      intro Q E hq
      exact wpAny_call_obj_init F.objNew (R.base _ _ hC) (hN.keeps R.base) hmN (R.base _ _ hfo) hfc hq
    have inner : ∀ h' x dx, Heap.MadeObj s.heap h' x dx C → Full ρ s.heap (ρ ++ [(x, dx)]) h' ∧ SimAt cx (A.under (.builtin "type.__call__" ⟨.ref C :: vs, []⟩)) (Φ k (.loc H.length :: ms) (H ++ [.inst c []])) (call (.ref fa) (.ref x :: vs)) (Amb.vr cx) (ρ ++ [(x, dx)]) { s with heap := h' } := by
      intro h' x dx mo
      refine hideG fun G kG => ?_
      refine ex1 mo.inst fun o zz => aNd4 zz fun ho oc od odd => ?_
      have hdx := mo.dict o ho
      have nn : dx ≠ x ∧ h'.Ns1 dx (fun _ => none) := by
        rcases odd with ⟨w, _⟩ | ⟨b, w, w1, w2⟩
        · rw [hdx] at w; cases w
        · rw [hdx] at w; cases w; exact ⟨w1, w2⟩
      obtain ⟨F, R'⟩ := R.alloc (tk := s.toks) (o := .inst c []) (p := (x, dx)) mo.keeps ⟨mo.newX, mo.newD⟩ (.inst hks hc ho oc od hdx nn.1 nn.2 (fun n v hv => by cases hv) (fun y hy => absurd rfl hy))
      refine kG ?_
      have vx : VR cx (ρ ++ [(x, dx)]) h' (.loc H.length) (.ref x) := VR.loc (p := (x, dx)) (by rw [R.len, List.getElem?_append_right (Nat.le_refl _)]; simp)
      exact ⟨F, hΦ k fa (.loc H.length :: ms) (.ref x :: vs) _ l hfa room.made hfr _ _ _ R' ⟨.cons vx (vrs.step F.step), fr.full F⟩⟩
    cases hr : Φ k (.loc H.length :: ms) (H ++ [.inst c []]) with
    | bad => trivial
    | exc e H' =>
      refine main _ _ fun h' x dx mo => ?_
      obtain ⟨F, sm⟩ := inner h' x dx mo
      rw [hr] at sm
      exact wpAny_mono sm (fun _ _ q => q.elim) fun ex s' ⟨ρ', F', R', fl⟩ => ⟨ρ', F.trans F', R', fl.older F.live⟩
    | ok r H' =>
      cases r with
      | none =>
        refine main _ _ fun h' x dx mo => ?_
        obtain ⟨F, sm⟩ := inner h' x dx mo
        rw [hr] at sm
        refine wpAny_mono sm (fun r' s' ⟨ρ', F', R', vr⟩ => ⟨VR.none_inv vr, ρ', F.trans F', R', ?_⟩) fun _ _ q => q.elim
        exact VR.loc (p := (x, dx)) (F'.grow.get (by rw [R.len, List.getElem?_append_right (Nat.le_refl _)]; simp))
      | _ => trivial
theorem eok_new (B : Base cx N) (hΦ : FunsOk cx Φ d) (room : Room A d) (hfr : A.frames = some l) {c : Nat} {es : MEs} {x : Str} {np pos : Pos} {xs : List Expr} (hg : isGlob sc x = true) (hk : hasNo N.clss x c = true) (hes : ckEs N sc ns es xs = true)
    (y' : Sim cx A ((Amb.env cx env sc ns Γ).and (Amb.frames cx l)) (spliced (xs.map fun e => (false, eval e env))) (evalEs cx.T Φ es Γ) (Amb.vrs cx)) :
    EOk cx A ((Amb.env cx env sc ns Γ).and (Amb.frames cx l)) Φ env Γ (.new c es) (.Call (.Name x np) xs [] pos) := by
  refine EOk.of ?_ rfl
  intro H ρ s R p
  first | rw [ev_call] | rw [ev_new] | rw [ev_umeth] | rw [ev_bf] | rw [ev_isinst] | rw [ev_bm]
  cases hm : cx.T.meth c 0 with
  | none => trivial
  | some k =>
    have hks : (cx.T.meth c 0).isSome = true := by rw [hm]; rfl
    refine hideG fun G kG => ?_
    refine ex2 B.ns fun mg mb zz => aNd6 zz fun ng nb _ _ q _ => ?_
    refine ex1 (q x c (hasNo_eq hk)) fun Cv zz => aNd2 zz fun hC hx => ?_
    obtain ⟨C, rfl⟩ := B.cls.ref c Cv hC hks
    refine ex14 ((B.cls.cls c C hC hks).is) fun nm qn Nn bs sn sub col dd q0 q1 q2 q3 q5 mN zz => aNd2 zz fun hCo _ => ?_
    refine kG ?_
    refine SimK.mono (simK_args (f := .ref C) (K := fun vs Q E s => s.heap.get? C = some (excClassObj nm qn C Nn bs [.type "object"] true sn sub false col dd q0 q1 q2 q3 q5 "object.__new__") ∧ wpAny (model cx.prog cx.w) A (call (.ref C) vs) Q E s) (fun e => ckEs_nil (e ▸ hes)) R (y' H ρ s R p) ?_ ?_) ?_
    · intro ms vs H1 ρ1 s1 _ F1 R1 vrs
      exact SimK.andK (R1.base _ _ hCo) (simK_new B.cls hΦ room hfr hC R1 vrs (p.2.full F1))
    · exact fun vs Q E Q' E' s h k1 k2 => ⟨h.1, wpAny_mono h.2 k1 k2⟩
    · intro Q E h
      refine wpAny_Call_ofName (wp_glob R p.1.st hg ng nb hx ?_)
      rw [plainArgs_trees pos (ckEs_plain hes)]
      exact callWith_own (any_false _) (wpAny_mono h (fun b s₁ h₁ => by refine aNd3 h₁ fun h1 h2 h3 => ?_; exact ⟨h1, h2, h3⟩) fun _ _ q => q)
end
end Mine
-- part MSlice
namespace Mine
open PySem
section
variable {cx : Cx} {N : Names} {A : Around} {P : Amb} {Φ : Funs} {l : List Env} {d : Nat} {env : Env} {sc : Scope} {ns : List (Option Str)} {Γ : Env'} {H : Hp} {ρ : Rho} {s : Shared}
theorem VRs.cut {h : Heap} {ms : List Val} {vs : List Value} (r : VRs cx ρ h ms vs) (p : Bool × Nat) : VRs cx ρ h (cut p ms) (cut p vs) := by
  obtain ⟨b, k⟩ := p
  cases b with
  | true => exact r.drop k
  | false => exact VRs.take r k
theorem cut_le {α : Type} (p : Bool × Nat) (xs : List α) : (cut p xs).length ≤ xs.length := by
  obtain ⟨b, k⟩ := p
  cases b with
  | true => show (xs.drop k).length ≤ _; rw [List.length_drop]; exact o142
  | false => show (xs.take k).length ≤ _; rw [List.length_take]; exact o143
set_option tactic.hygienic true in
theorem cut_parts {h : Heap} {lo hi : Val} {vl vu : Value} {p : Bool × Nat} {n : Nat} (e : cutOf lo hi n = some p) (x : VR cx ρ h lo vl) (y : VR cx ρ h hi vu) : ∃ a b, IsPart vl a ∧ IsPart vu b ∧ ∀ vs : List Value, vs.length = n → slicePick vs.toArray a b none = (cut p vs).toArray := by
  cases lo with
  | int k =>
    cases hi with
    | none =>
      have e : some (true, if 0 ≤ k then k.toNat else n - k.natAbs) = some p := e
      cases e
      obtain ⟨t, hr0⟩ := x.int_inv; refine Eq.symm hr0 ▸ ?_
      obtain rfl := y.none_inv
      refine ⟨_, _, .int k t, .none, fun vs hn => ?_⟩
      by_cases h0 : 0 ≤ k
      · rw [if_pos h0]
        have := slicePick_from' vs.toArray k.toNat
        rwa [Int.toNat_of_nonneg h0] at this
      · rw [if_neg h0, ← hn]
        have := slicePick_last vs.toArray k.natAbs (by exact o144 h0)
        rwa [show -(k.natAbs : Int) = k by exact o145 h0] at this
    | _ => cases e
  | none =>
    cases hi with
    | int k =>
      have e : (if 0 ≤ k then some (false, k.toNat) else none) = some p := e
      split at e
      · rename_i h0
        cases e
        obtain ⟨t, hr2⟩ := y.int_inv; refine Eq.symm hr2 ▸ ?_
        obtain rfl := x.none_inv
        refine ⟨_, _, .none, .int k t, fun vs _ => ?_⟩
        have := slicePick_upto' vs.toArray k.toNat
        rwa [Int.toNat_of_nonneg h0] at this
      · cases e
    | _ => cases e
  | _ => cases e
noncomputable def SlicePost (o vl vu : Value) (Q : Value → Shared → Prop) (s₃ : Shared) : Prop :=
  ∃ l items lo hi, o = .ref l ∧ s₃.heap.IsList l items ∧ items.size ≤ sizeLine ∧ IsPart vl lo ∧ IsPart vu hi ∧
    Q (.ref (s₃.heap.objs.size + 1)) { s₃ with heap := (s₃.heap.push { cls := .type "slice", data := .fields #[vl, vu, .none] }).push { cls := .type "list", data := .seq (slicePick items lo hi none) } }
theorem SlicePost.mono {o vl vu : Value} {Q Q' : Value → Shared → Prop} {s₃ : Shared} (h : SlicePost o vl vu Q s₃) (k : ∀ a s, Q a s → Q' a s) : SlicePost o vl vu Q' s₃ := by
  refine hideG fun G kG => ?_
  refine ex4 h fun l items lo hi zz => aNd6 zz fun h1 h2 h3 h4 h5 h6 => ?_
  refine kG ?_
  exact ⟨l, items, lo, hi, h1, h2, h3, h4, h5, k _ _ h6⟩
set_option tactic.hygienic true in
theorem items_list (R : Rel cx H ρ s) {a : Val} {v : Value} {xs : List Val} (x : VR cx ρ s.heap a v) (h : itemsOf a H = some xs) (ht : isTup a = false) : ∃ p vs n, v = .ref p ∧ s.heap.get? p = some (listO vs n) ∧ VRs cx ρ s.heap xs vs ∧ xs.length ≤ sizeLine := by
  cases a with
  | loc i =>
    refine ex1 x.loc_inv fun p zz => aNd2 zz fun hp hr0 => ?_; refine Eq.symm hr0 ▸ ?_
    simp only [itemsOf] at h
    split at h
    · rename_i ys hl
      cases h
      refine hideG fun G kG => ?_
      refine ex2 (R.listAt hl hp) fun vs n zz => aNd4 zz fun _ g r z => ?_
      refine kG ?_
      exact ⟨p.1, vs, n, rfl, g, r, z⟩
    · cases h
  | script ms =>
    cases h
    cases x with
    | script e z r => exact ⟨_, _, _, rfl, R.base _ _ e, r, by rw [List.length_map]; exact z⟩
  | tup ms => cases ht
  | _ => cases h
theorem wp_slice_of {value : Expr} {lower upper : Option Expr} {p pos : Pos} {Q E : Value → Shared → Prop}
    (h : wpAny (model cx.prog cx.w) A (eval value env) (fun o s₁ => wpAny (model cx.prog cx.w) A (evalPart lower env) (fun vl s₂ => wpAny (model cx.prog cx.w) A (evalPart upper env) (fun vu s₃ => SlicePost o vl vu Q s₃) E s₂) E s₁) E s) :
    wpAny (model cx.prog cx.w) A (eval (.Subscript value (.Slice lower upper none p) pos) env) Q E s := by
  refine wpAny_bind (wpAny_mono h (fun o s₁ h₁ => wpAny_bind (wpAny_holding (wpAny_Slice (wpAny_mono h₁ (fun vl s₂ h₂ => wpAny_mono h₂ (fun vu s₃ h₃ => ?_) fun _ _ x => x) fun _ _ x => x)))) fun _ _ x => x)
  refine hideG fun G kG => ?_
  refine ex4 h₃ fun l items lo hi zz => aNd6 zz fun zr4 hl hsz pl pu hQ => ?_; subst zr4
  refine kG ?_
  refine wpAny_pure (wpAny_bind (wpAny_standAt ?_))
  have ty := (hl.push { cls := .type "slice", data := .fields #[vl, vu, .none] }).typeIs (s := { s₃ with heap := s₃.heap.push { cls := .type "slice", data := .fields #[vl, vu, .none] } })
  have get : wpAny (model cx.prog cx.w) A (getItem (.ref l) (.ref s₃.heap.objs.size)) Q E { s₃ with heap := s₃.heap.push { cls := .type "slice", data := .fields #[vl, vu, .none] } } := by
    refine wpAny_getItem_list_slice (hl.push _) (Heap.IsSliceOf.new ..) pl pu .none (by simp) ?_ hsz
    rw [Heap.size_push]; exact hQ
  have fin : ∀ i, wpAny (model cx.prog cx.w) A (getItem (.ref l) i) Q E _ → wpAny (model cx.prog cx.w) A (operate [i, .ref l] (getItem (.ref l) i)) (fun r s₃ => wpAny (model cx.prog cx.w) A (letTemporaryGo value (.ref l) r >>= fun _ => pure r) Q E s₃) E { s₃ with heap := s₃.heap.push { cls := .type "slice", data := .fields #[vl, vu, .none] } } :=
    fun i g => wpAny_operating (wpAny_mono g (fun r s₃ h₃ => wpAny_bind (wpAny_letTemporaryGo (wpAny_pure h₃))) fun _ _ x => x)
  refine wpAny_bind ?_
  exact wpAny_bind (wpAny_specialOf ty list_getitem_lookup (wpAny_pure (wpAny_bind (fin _ get))))
set_option tactic.hygienic true in
theorem eok_slice {a : ME} {lo hi : MEo} {x : Expr} {p pos : Pos} {lw up : Option Expr} (ha : EOk cx A P Φ env Γ a x) (hl : Sim cx A P (evalPart lw env) (evalO cx.T Φ lo Γ) (Amb.vr cx)) (hu : Sim cx A P (evalPart up env) (evalO cx.T Φ hi Γ) (Amb.vr cx)) :
    EOk cx A P Φ env Γ (.slice a lo hi) (.Subscript x (.Slice lw up none p) pos) := by
  refine EOk.of ?_ rfl
  intro H ρ s R p0
  refine SimAt.bindK (K' := fun Q E s => wpAny (model cx.prog cx.w) A (eval (.Subscript x (.Slice lw up none p) pos) env) Q E s)
    (K := fun o Q E s => wpAny (model cx.prog cx.w) A (evalPart lw env) (fun vl s₂ => wpAny (model cx.prog cx.w) A (evalPart up env) (fun vu s₃ => SlicePost o vl vu Q s₃) E s₂) E s) (ha.val H ρ s R p0) ?_ ?_ (fun Q E h => wp_slice_of h)
  · intro b ov H1 ρ1 s1 _ F1 R1 vr
    refine SimAt.bindK (K' := fun Q E s => wpAny (model cx.prog cx.w) A (evalPart lw env) (fun vl s₂ => wpAny (model cx.prog cx.w) A (evalPart up env) (fun vu s₃ => SlicePost ov vl vu Q s₃) E s₂) E s)
      (K := fun vl Q E s => wpAny (model cx.prog cx.w) A (evalPart up env) (fun vu s₃ => SlicePost ov vl vu Q s₃) E s) (hl H1 ρ1 s1 R1 (P.st _ _ _ _ p0 F1)) ?_ ?_ (fun Q E h => h)
    · intro b2 vl H2 ρ2 s2 _ F2 R2 vr2
      refine SimAt.bindK (K' := fun Q E s => wpAny (model cx.prog cx.w) A (evalPart up env) (fun vu s₃ => SlicePost ov vl vu Q s₃) E s)
        (K := fun vu Q E s₃ => SlicePost ov vl vu Q s₃) (hu H2 ρ2 s2 R2 (P.st _ _ _ _ (P.st _ _ _ _ p0 F1) F2)) ?_ ?_ (fun Q E h => h)
      · intro b3 vu H3 ρ3 s3 _ F3 R3 vr3
        have v1 : VR cx ρ3 s3.heap b ov := VR.step F3.step (VR.step F2.step vr)
        have v2 : VR cx ρ3 s3.heap b2 vl := VR.step F3.step vr2
        have v3 : VR cx ρ3 s3.heap b3 vu := vr3
        show SimK cx (sliceV b b2 b3 H3) _ _ ρ3 s3
        unfold sliceV
        split
        · rename_i xs hx
          split
          · rename_i q hq
            by_cases ht : isTup b = true
            · rw [if_pos ht]; trivial
            · rw [if_neg ht]
              refine hideG fun G kG => ?_
              refine ex3 (items_list R3 v1 hx (by simpa using ht)) fun a vs n zz => aNd4 zz fun zr3 g r z => ?_; subst zr3
              refine ex2 (cut_parts hq v2 v3) fun pa pb zz => aNd3 zz fun q1 q2 q3 => ?_
              refine kG ?_
              refine ⟨a, vs.toArray, pa, pb, rfl, ⟨_, g, rfl, n, rfl⟩, by simp only [List.size_toArray]; rw [← r.length]; exact z, q1, q2, ?_⟩
              rw [q3 vs r.length.symm]
              have F4 : Full ρ3 s3.heap ρ3 (s3.heap.push { cls := .type "slice", data := .fields #[vl, vu, .none] }) := Full.push _ _ _
              have R4 := R3.push { cls := .type "slice", data := .fields #[vl, vu, .none] } s3.toks
              have := R4.newList (s := { s3 with heap := s3.heap.push { cls := .type "slice", data := .fields #[vl, vu, .none] } }) s3.toks ((VRs.cut r q).step F4.step) (Nat.le_trans (cut_le _ _) z)
              rw [Heap.size_push] at this
              refine hideG fun G kG => ?_
              refine ex1 this fun ρ' zz => aNd3 zz fun F' R' vr' => ?_
              refine kG ?_
              exact ⟨ρ', F4.trans F', R', vr'⟩
          · trivial
        · trivial
      · exact fun vu Q E Q' E' s h k1 _ => h.mono k1
    · exact fun vl Q E Q' E' s h k1 k2 => wpAny_mono h (fun vu s₃ h' => h'.mono k1) k2
  · exact fun ov Q E Q' E' s h k1 k2 => wpAny_mono h (fun vl s₂ h' => wpAny_mono h' (fun vu s₃ h'' => h''.mono k1) k2) k2
end
end Mine
-- part MEval
namespace Mine
open PySem
section
variable {cx : Cx} {N : Names} {A : Around} {Φ : Funs} {l : List Env} {d : Nat}
structure Ground (cx : Cx) (N : Names) (A : Around) (Φ : Funs) (l : List Env) (d : Nat) : Prop where
  base : Base cx N
  room : Room A d
  frames : A.frames = some l
  funs : FunsOk cx Φ d
  defs : ∀ (f : Nat) (a : Addr), cx.fns[f]? = some a → ∃ g, cx.T.funs[f]? = some g
theorem Ground.u (G : Ground cx N A Φ l d) : A.units + 100 < cLine := by have := G.room.units; exact o146 this
noncomputable def Apart (ns : List (Option Str)) : Prop := ∀ (i j : Nat) (y : Str), ns[i]? = some (some y) → ns[j]? = some (some y) → i = j
theorem bm_len {m : BM} {ms : List Val} {xs : List Expr} (h1 : (bmName m).2 = xs.length) (h2 : ms.length = xs.length) : ms.length = (bmName m).2 := by rw [h1, h2]
theorem bm_one (hu : A.units + 100 < cLine) (m : BM) (b : Val) (v : Value) (ms : List Val) (vs : List Value) (hl : ms.length = (bmName m).2) : Sim cx A ((Amb.vr cx b v).and (Amb.vrs cx ms vs)) (call (.builtin (bmAt m).2) (v :: vs)) (bmV m b ms) (Amb.vr cx) := by
  cases m with
  | append => exact bm_append b v ms vs hl
  | rstrip => exact bm_rstrip b v ms vs hl
  | dpop => exact bm_dpop hu b v ms vs hl
  | remove => exact bm_remove hu b v ms vs hl
set_option maxHeartbeats 4000000 in
mutual
theorem eok (G : Ground cx N A Φ l d) : ∀ (m : ME) (e : Expr) (env : Env) (sc : Scope) (ns : List (Option Str)) (Γ : Env'), ck N sc ns m e = true → Apart ns → Γ.length = ns.length → EOk cx A ((Amb.env cx env sc ns Γ).and (Amb.frames cx l)) Φ env Γ m e
  | .none, e, env, sc, ns, Γ, h, _, _ => by
    refine ex2 (inv_none h) fun k pos hr0 => ?_; refine Eq.symm hr0 ▸ ?_
    refine EOk.of (fun H ρ s R p => ?_) rfl
    exact simAt_pure R fun Q E k => wpAny_Constant_none (k _ s.toks .none)
  | .bool b, e, env, sc, ns, Γ, h, _, _ => by
    refine ex2 (inv_bool h) fun k pos zr2 => ?_; subst zr2
    refine EOk.of (fun H ρ s R p => ?_) rfl
    exact simAt_pure R fun Q E k => wpAny_Constant_bool (k _ s.toks (.bool b))
  | .int i, e, env, sc, ns, Γ, h, _, _ => by
    refine ex2 (inv_int h) fun k pos zr2 => ?_; subst zr2
    refine EOk.of (fun H ρ s R p => ?_) rfl
    exact simAt_pure R fun Q E k => wpAny_Constant_int (k _ _ (.int _ _))
  | .str v, e, env, sc, ns, Γ, h, _, _ => by
    refine ex2 (inv_str h) fun k pos zz => aNd2 zz fun hr3 z => ?_; refine Eq.symm hr3 ▸ ?_
    refine EOk.of (fun H ρ s R p => ?_) rfl
    exact simAt_pure R fun Q E k => wpAny_Constant_str (k _ _ (.str _ _ (by rw [sizeLine_eq]; exact o19 z)))
  | .glob k, e, env, sc, ns, Γ, h, _, _ => by
    refine ex2 (inv_glob h) fun x pos zz => aNd3 zz fun zr2 h1 h2 => ?_; subst zr2
    exact EOk.of (sim_glob G.base h1 h2 Φ).and1 rfl
  | .var i, e, env, sc, ns, Γ, h, _, _ => by
    refine ex2 (inv_var h) fun x pos zz => aNd2 zz fun zr2 h1 => ?_; subst zr2
    exact EOk.of (sim_var h1 Φ).and1 rfl
  | .bin op a b, e, env, sc, ns, Γ, h, ha, hΓ => by
    refine ex4 (inv_bin h) fun x o y pos zz => aNd4 zz fun hr6 h1 h2 h3 => ?_; refine Eq.symm hr6 ▸ ?_
    exact eok_bin h1 (eok G a x env sc ns Γ h2 ha hΓ) (eok G b y env sc ns Γ h3 ha hΓ)
  | .neg a, e, env, sc, ns, Γ, h, ha, hΓ => by
    refine ex2 (inv_neg h) fun x pos zz => aNd2 zz fun zr2 h1 => ?_; subst zr2
    exact eok_neg (eok G a x env sc ns Γ h1 ha hΓ)
  | .not a, e, env, sc, ns, Γ, h, ha, hΓ => by
    refine ex2 (inv_not h) fun x pos zz => aNd2 zz fun zr2 h1 => ?_; subst zr2
    exact eok_not (eok G a x env sc ns Γ h1 ha hΓ)
  | .and a b, e, env, sc, ns, Γ, h, ha, hΓ => by
    refine ex4 (inv_and h) fun x y rest pos zz => aNd3 zz fun zr4 h1 h2 => ?_; subst zr4
    refine eok_and (eok G a x env sc ns Γ h1 ha hΓ) ?_
    rcases h2 with ⟨rfl, h2⟩ | h2
    · exact EOks.one (eok G b y env sc ns Γ h2 ha hΓ)
    · exact EOks.more (eok G b _ env sc ns Γ h2 ha hΓ)
  | .or a b, e, env, sc, ns, Γ, h, ha, hΓ => by
    refine ex4 (inv_or h) fun x y rest pos zz => aNd3 zz fun zr4 h1 h2 => ?_; subst zr4
    refine eok_or (eok G a x env sc ns Γ h1 ha hΓ) ?_
    rcases h2 with ⟨rfl, h2⟩ | h2
    · exact EOks.one (eok G b y env sc ns Γ h2 ha hΓ)
    · exact EOks.more (eok G b _ env sc ns Γ h2 ha hΓ)
  | .cmp op a b, e, env, sc, ns, Γ, h, ha, hΓ => by
    refine ex3 (inv_cmp h) fun x y pos zz => aNd4 zz fun hr11 h1 h2 h3 => ?_; refine Eq.symm hr11 ▸ ?_
    exact eok_cmp G.u h3 (eok G a x env sc ns Γ h1 ha hΓ) (eok G b y env sc ns Γ h2 ha hΓ)
  | .cmp2 op1 op2 a b c, e, env, sc, ns, Γ, h, ha, hΓ => by
    refine ex4 (inv_cmp2 h) fun x y z pos zz => aNd5 zz fun hr12 h1 h2 h3 h4 => ?_; refine Eq.symm hr12 ▸ ?_
    exact eok_cmp2 G.u h4 (eok G a x env sc ns Γ h1 ha hΓ) (eok G b y env sc ns Γ h2 ha hΓ) (eok G c z env sc ns Γ h3 ha hΓ)
  | .sub a i, e, env, sc, ns, Γ, h, ha, hΓ => by
    refine ex3 (inv_sub h) fun x y pos zz => aNd3 zz fun hr13 h1 h2 => ?_; refine Eq.symm hr13 ▸ ?_
    exact eok_sub G.u (eok G a x env sc ns Γ h1 ha hΓ) (eok G i y env sc ns Γ h2 ha hΓ)
  | .slice a lo hi, e, env, sc, ns, Γ, h, ha, hΓ => by
    refine ex5 (inv_slice h) fun v lw up p pos zz => aNd4 zz fun zr5 h1 h2 h3 => ?_; subst zr5
    exact eok_slice (eok G a v env sc ns Γ h1 ha hΓ) (eopt G lo lw env sc ns Γ h2 ha hΓ) (eopt G hi up env sc ns Γ h3 ha hΓ)
  | .tup es, e, env, sc, ns, Γ, h, ha, hΓ => by
    refine ex3 (inv_tup h) fun xs k pos zz => aNd3 zz fun hr15 h1 h2 => ?_; refine Eq.symm hr15 ▸ ?_
    exact EOk.of (sim_tup (ckEs_plain h1) h2 (fun _ _ _ e => evalEs_length h1 e) (eoks G es xs env sc ns Γ h1 ha hΓ)) rfl
  | .list es, e, env, sc, ns, Γ, h, ha, hΓ => by
    refine ex2 (inv_list h) fun xs pos zz => aNd3 zz fun zr2 h1 h2 => ?_; subst zr2
    exact EOk.of (sim_list (ckEs_plain h1) h2 (fun _ _ _ e => evalEs_length h1 e) (eoks G es xs env sc ns Γ h1 ha hΓ)) rfl
  | .dict, e, env, sc, ns, Γ, h, ha, hΓ => by
    obtain ⟨pos, hr17⟩ := inv_dict h; refine Eq.symm hr17 ▸ ?_
    exact EOk.of sim_dict rfl
  | .attr a n, e, env, sc, ns, Γ, h, ha, hΓ => by
    refine ex3 (inv_attr h) fun x y pos zz => aNd4 zz fun zr3 h1 h2 h3 => ?_; subst zr3
    exact eok_attr G.base.cls h2 h3 (eok G a x env sc ns Γ h1 ha hΓ)
  | .call f es, e, env, sc, ns, Γ, h, ha, hΓ => by
    refine ex4 (inv_call h) fun x np xs pos zz => aNd5 zz fun zr4 h1 h2 h3 h4 => ?_; subst zr4
    refine EOk.of ?_ rfl
    refine ex2 G.base.ns fun mg mb zz => aNd4 zz fun ng nb q _ => ?_
    refine ex1 (q x f (hasNo_eq h2)) fun a zz => aNd2 zz fun ha' _ => ?_
    exact sim_callU G.base (fun a args vals h => G.funs f a args vals A l h G.room.toF G.frames) h1 h2 (G.defs f a ha') h3 (eoks G es xs env sc ns Γ h3 ha hΓ)
  | .new c es, e, env, sc, ns, Γ, h, ha, hΓ => by
    refine ex4 (inv_new h) fun x np xs pos zz => aNd5 zz fun zr4 h1 h2 h3 h4 => ?_; subst zr4
    exact eok_new G.base G.funs G.room G.frames h1 h2 h3 (eoks G es xs env sc ns Γ h3 ha hΓ)
  | .umeth a m es, e, env, sc, ns, Γ, h, ha, hΓ => by
    refine ex5 (inv_umeth h) fun o y apos xs pos zz => aNd7 zz fun hr21 h1 h2 h3 h4 h5 h6 => ?_; refine Eq.symm hr21 ▸ ?_
    exact eok_umeth G.base.cls G.funs G.room G.frames h2 h3 h4 h5 h6 (eok G a o env sc ns Γ h1 ha hΓ) (eoks G es xs env sc ns Γ h3 ha hΓ)
  | .bf f es, e, env, sc, ns, Γ, h, ha, hΓ => by
    refine ex4 (inv_bf h) fun x np xs pos zz => aNd5 zz fun zr4 h1 h2 h3 h4 => ?_; subst zr4
    exact eok_bf G.base G.room.hh G.u h1 h2 h3 h4 (eoks G es xs env sc ns Γ h4 ha hΓ)
  | .bm a m es, e, env, sc, ns, Γ, h, ha, hΓ => by
    refine ex5 (inv_bm h) fun o y apos xs pos zz => aNd7 zz fun zr5 h1 zr7 h3 h4 h5 h6 => ?_; subst zr5; subst zr7
    refine EOk.of ?_ rfl
    exact sim_bm h5 (ckEs_plain h4) (by rw [← h3]; cases m <;> decide) (fun e => ckEs_nil (e ▸ h4)) h6 (eok G a o env sc ns Γ h1 ha hΓ).val (eoks G es xs env sc ns Γ h4 ha hΓ)
      (fun b v ms vs hl => bm_one G.u m b v ms vs (bm_len h3 hl)) (fun _ _ _ e => evalEs_length h4 e)
  | .isinst a t, e, env, sc, ns, Γ, h, ha, hΓ => by
    refine ex6 (inv_isinst h) fun f np x y yp pos zz => aNd6 zz fun hr23 h1 h2 h3 h4 h5 => ?_; refine Eq.symm hr23 ▸ ?_
    have z := eok G a x env sc ns Γ h4 ha hΓ
    cases t with
    | cls c => exact eok_isiC G.base h1 h2 h3 h5 (ck_notStar h4) z
    | int => exact eok_isi G.base (fun c => by intro q; cases q) h1 h2 h3 (of_decide_eq_true h5) (ck_notStar h4) z
    | bool => exact eok_isi G.base (fun c => by intro q; cases q) h1 h2 h3 (of_decide_eq_true h5) (ck_notStar h4) z
    | str => exact eok_isi G.base (fun c => by intro q; cases q) h1 h2 h3 (of_decide_eq_true h5) (ck_notStar h4) z
    | tuple => exact eok_isi G.base (fun c => by intro q; cases q) h1 h2 h3 (of_decide_eq_true h5) (ck_notStar h4) z
    | list => exact eok_isi G.base (fun c => by intro q; cases q) h1 h2 h3 (of_decide_eq_true h5) (ck_notStar h4) z
  | .comp elt it cond, e, env, sc, ns, Γ, h, ha, hΓ => by
    refine ex7 (inv_comp h) fun el x px i ifs csc pos zz => aNd6 zz fun hr24 h1 h2 h3 h4 h5 => ?_; refine Eq.symm hr24 ▸ ?_
    exact eok_comp G.room.hh h2 h3 ha hΓ ⟨fun cenv Γ' hΓ' => econd G cond ifs cenv csc _ Γ' h5 (inner_inj ha (compOk_parts h3).2.1) hΓ', fun cenv Γ' hΓ' => (eok G elt el cenv csc _ Γ' h4 (inner_inj ha (compOk_parts h3).2.1) hΓ').val⟩ (eok G it i env sc ns Γ h1 ha hΓ)
theorem eopt (G : Ground cx N A Φ l d) : ∀ (o : MEo) (x : Option Expr) (env : Env) (sc : Scope) (ns : List (Option Str)) (Γ : Env'), ckO N sc ns o x = true → Apart ns → Γ.length = ns.length → Sim cx A ((Amb.env cx env sc ns Γ).and (Amb.frames cx l)) (evalPart x env) (evalO cx.T Φ o Γ) (Amb.vr cx)
  | .none, none, env, sc, ns, Γ, _, _, _ => by
    intro H ρ s R p
    exact wpAny_pure ⟨ρ, Full.refl _ _, R, .none⟩
  | .some e, some x, env, sc, ns, Γ, h, ha, hΓ => by
    exact (eok G e x env sc ns Γ h ha hΓ).val
  | .none, some _, env, sc, ns, Γ, h, ha, hΓ => by cases (show false = true from h)
  | .some _, none, env, sc, ns, Γ, h, ha, hΓ => by cases (show false = true from h)
theorem econd (G : Ground cx N A Φ l d) : ∀ (cond : MEo) (ifs : List Expr) (cenv : Env) (csc : Scope) (ns' : List (Option Str)) (Γ' : Env'), ckC N csc ns' cond ifs = true → Apart ns' → Γ'.length = ns'.length →
    Sim cx A ((Amb.env cx cenv csc ns' Γ').and (Amb.frames cx l)) (forIn ifs true fun c r => if r = true then do let ok ← isTrue c cenv (eval c cenv); pure (ForInStep.yield ok) else pure (ForInStep.yield r)) (evalC cx.T Φ cond Γ') BV
  | .none, [], cenv, csc, ns', Γ', h2, ha, hΓ => by
    intro H ρ s R p
    exact wpAny_tests_nil ⟨ρ, Full.refl _ _, R, rfl⟩
  | .some c, [i], cenv, csc, ns', Γ', h2, ha, hΓ => by
    exact (eok G c i cenv csc ns' Γ' h2 ha hΓ).tru.pre fun Q E s h => wpAny_tests_one h
  | .none, _ :: _, cenv, csc, ns', Γ', h2, ha, hΓ => by cases (show false = true from h2)
  | .some _, [], cenv, csc, ns', Γ', h2, ha, hΓ => by cases (show false = true from h2)
  | .some _, _ :: _ :: _, cenv, csc, ns', Γ', h2, ha, hΓ => by cases (show false = true from h2)
theorem eoks (G : Ground cx N A Φ l d) : ∀ (ms : MEs) (xs : List Expr) (env : Env) (sc : Scope) (ns : List (Option Str)) (Γ : Env'), ckEs N sc ns ms xs = true → Apart ns → Γ.length = ns.length →
    Sim cx A ((Amb.env cx env sc ns Γ).and (Amb.frames cx l)) (spliced (xs.map fun e => (false, eval e env))) (evalEs cx.T Φ ms Γ) (Amb.vrs cx)
  | .nil, [], env, sc, ns, Γ, h, ha, hΓ => sim_nil
  | .nil, _ :: _, env, sc, ns, Γ, h, ha, hΓ => by cases (show false = true from h)
  | .cons _ _, [], env, sc, ns, Γ, h, ha, hΓ => by cases (show false = true from h)
  | .cons m ms, x :: xs, env, sc, ns, Γ, h, ha, hΓ => by
    have h := And.intro (an1 h) (an2 h)
    exact sim_cons (eok G m x env sc ns Γ h.1 ha hΓ).val (eoks G ms xs env sc ns Γ h.2 ha hΓ)
end
end
end Mine
-- part MExec
namespace Mine
open PySem
section
variable {cx : Cx} {N : Names} {A : Around} {Φ : Funs} {l : List Env} {d : Nat} {env : Env} {sc : Scope} {ns : List (Option Str)} {Γ : Env'} {H : Hp} {ρ ρ' : Rho} {s : Shared}
noncomputable def SimSK (cx : Cx) (env : Env) (sc : Scope) (ns : List (Option Str)) (r : ResS) (T : (Flow → Shared → Prop) → (Value → Shared → Prop) → Shared → Prop) (ρ : Rho) (s : Shared) : Prop :=
  match r with
  | .bad => True
  | .next Γ' H' => T (fun f s' => f = .next ∧ ∃ ρ', FullS env ρ s.heap ρ' s'.heap ∧ Rel cx H' ρ' s' ∧ EnvOk cx env sc ns Γ' ρ' s'.heap) (fun _ _ => False) s
  | .ret v H' => T (fun f s' => ∃ v' ρ', f = .ret v' ∧ FullS env ρ s.heap ρ' s'.heap ∧ Rel cx H' ρ' s' ∧ (VR cx ρ' s'.heap v v' ∧ EnvSt cx env sc ρ' s'.heap)) (fun _ _ => False) s
  | .exc c Γ' H' => T (fun _ _ => False) (fun e s' => ∃ ρ', FullS env ρ s.heap ρ' s'.heap ∧ Rel cx H' ρ' s' ∧ EnvOk cx env sc ns Γ' ρ' s'.heap ∧ Flying cx ρ' s.heap s'.heap c e) s
theorem SimSK.of {r : ResS} {t : Sem Flow} (x : SimSAt cx A env sc ns r t ρ s) : SimSK cx env sc ns r (fun Q E s => wpAny (model cx.prog cx.w) A t Q E s) ρ s := by cases r <;> exact x
theorem SimSK.to {r : ResS} {t : Sem Flow} (x : SimSK cx env sc ns r (fun Q E s => wpAny (model cx.prog cx.w) A t Q E s) ρ s) : SimSAt cx A env sc ns r t ρ s := by cases r <;> exact x
theorem SimSK.mono {r : ResS} {T T' : (Flow → Shared → Prop) → (Value → Shared → Prop) → Shared → Prop} (x : SimSK cx env sc ns r T ρ s) (k : ∀ Q E, T Q E s → T' Q E s) : SimSK cx env sc ns r T' ρ s := by cases r <;> first | trivial | exact k _ _ x
theorem SimSAt.bindK {α β : Type} {t : Sem α} {m : M β} {V : β → α → Amb} {g : β → Hp → ResS} {K : α → (Flow → Shared → Prop) → (Value → Shared → Prop) → Shared → Prop} {K' : (Flow → Shared → Prop) → (Value → Shared → Prop) → Shared → Prop} (e0 : EnvOk cx env sc ns Γ ρ s.heap) (x : SimAt cx A (m H) t V ρ s)
    (y : ∀ b a H' ρ' s', m H = .ok b H' → Full ρ s.heap ρ' s'.heap → Rel cx H' ρ' s' → EnvOk cx env sc ns Γ ρ' s'.heap → (V b a).P ρ' s'.heap → SimSK cx env sc ns (g b H') (K a) ρ' s')
    (mk : ∀ a, MonoK (K a))
    (k : ∀ Q E, wpAny (model cx.prog cx.w) A t (fun a s' => K a Q E s') E s → K' Q E s) :
    SimSK cx env sc ns (bndS m Γ g H) K' ρ s := by
  unfold bndS
  cases e : m H with
  | bad => trivial
  | exc c H' =>
    rw [e] at x
    exact k _ _ (wpAny_mono x (fun _ _ q => q.elim) fun ex s' ⟨ρ', F, R, fl⟩ => ⟨ρ', F.toS, R, e0.full F, fl⟩)
  | ok b H' =>
    rw [e] at x
    show SimSK cx env sc ns (g b H') K' ρ s
    cases e2 : g b H' with
    | bad => trivial
    | next Γ2 H2 =>
      refine k _ _ (wpAny_mono x (fun a s' ⟨ρ', F, R, v⟩ => ?_) fun _ _ q => q.elim)
      have z := y b a H' ρ' s' e F R (e0.full F) v
      rw [e2] at z
      exact mk a _ _ _ _ _ z (fun f s'' ⟨h1, ρ'', F', R', e'⟩ => ⟨h1, ρ'', F.toS.trans F', R', e'⟩) fun _ _ q => q.elim
    | ret v2 H2 =>
      refine k _ _ (wpAny_mono x (fun a s' ⟨ρ', F, R, v⟩ => ?_) fun _ _ q => q.elim)
      have z := y b a H' ρ' s' e F R (e0.full F) v
      rw [e2] at z
      exact mk a _ _ _ _ _ z (fun f s'' ⟨v', ρ'', h1, F', R', e'⟩ => ⟨v', ρ'', h1, F.toS.trans F', R', e'⟩) fun _ _ q => q.elim
    | exc c2 Γ2 H2 =>
      refine k _ _ (wpAny_mono x (fun a s' ⟨ρ', F, R, v⟩ => ?_) fun _ _ q => q.elim)
      have z := y b a H' ρ' s' e F R (e0.full F) v
      rw [e2] at z
      exact mk a _ _ _ _ _ z (fun _ _ q => q) fun ex s'' ⟨ρ'', F', R', e', fl⟩ => ⟨ρ'', F.toS.trans F', R', e', fl.older F.live⟩
theorem SimSK.look {β : Type} {f : Hp → Option β} {g : β → Hp → ResS} {K : (Flow → Shared → Prop) → (Value → Shared → Prop) → Shared → Prop} (y : ∀ b, f H = some b → SimSK cx env sc ns (g b H) K ρ s) : SimSK cx env sc ns (bndS (M.look f) Γ g H) K ρ s := by
  unfold bndS
  cases e : f H with
  | none => rw [look_none e]; trivial
  | some b => rw [look_some e]; exact y b e
theorem FramesOk.stmt {h h' : Heap} (fr : FramesOk cx l ρ h) (F : FullS env ρ h ρ' h') (e0 : EnvSt cx env sc ρ h) (e1 : EnvSt cx env sc ρ' h') : FramesOk cx l ρ' h' := fun en he => by
  refine hideG fun G kG => ?_
  refine aNd2 (fr en he) fun k zz => ex2 zz fun L o zz => aNd5 zz fun h1 h2 h3 h5 h6 => ?_
  refine kG ?_
  by_cases q : L = env.locals
  · refine hideG fun G kG => ?_
    refine ex1 e1.loc fun m zz => ex3 zz fun o' es ep zz => aNd3 zz fun e' d _ => ?_
    refine kG ?_
    rw [← q] at e'
    exact ⟨k, L, o', h1, h2, e', ⟨_, _, d⟩, by rw [q]; exact e1.locN⟩
  · refine ex2 h5 fun es n hd => ?_
    refine ex1 (F.keep L o h3 h6 q (e0.notCell h3 fun v w => by rw [hd] at w; cases w)) fun o' zz => aNd2 zz fun e' u => ?_
    exact ⟨k, L, o', h1, h2, e', ⟨es, n, by rw [u.data]; exact hd⟩, F.grow.not h6 h3⟩
theorem sim_then {st : Stmt} {rest : List Stmt} {m : Env' → Hp → ResS} {g : Env' → Hp → ResS} (e0 : EnvOk cx env sc ns Γ ρ s.heap) (fr : FramesOk cx l ρ s.heap) (x : SimSAt cx A env sc ns (m Γ H) (exec st env) ρ s) (y : SimS cx A l env sc ns (execs rest env) g) :
    SimSAt cx A env sc ns (thenS (m Γ H) g) (execs (st :: rest) env) ρ s := by
  cases e : m Γ H with
  | bad => trivial
  | ret v H' =>
    rw [e] at x
    exact wpAny_execs_cons (wpAny_mono x (fun f s' q => by obtain ⟨v', ρ', rfl, q⟩ := q; exact ⟨v', ρ', rfl, q⟩) fun _ _ q => q)
  | exc c Γ' H' =>
    rw [e] at x
    exact wpAny_execs_cons (wpAny_mono x (fun f s' q => q.elim) fun _ _ q => q)
  | next Γ' H' =>
    rw [e] at x
    show SimSAt cx A env sc ns (g Γ' H') _ ρ s
    cases e2 : g Γ' H' with
    | bad => trivial
    | next Γ2 H2 =>
      refine wpAny_execs_cons (wpAny_mono x (fun f s' q => ?_) fun _ _ q => q.elim)
      obtain ⟨rfl, ρ', F, R, e'⟩ := q
      have z := y Γ' H' ρ' s' R e' (fr.stmt F e0.st e'.st)
      rw [e2] at z
      exact wpAny_mono z (fun f s'' ⟨h1, ρ'', F', R', e'⟩ => ⟨h1, ρ'', F.trans F', R', e'⟩) fun _ _ q => q.elim
    | ret v2 H2 =>
      refine wpAny_execs_cons (wpAny_mono x (fun f s' q => ?_) fun _ _ q => q.elim)
      obtain ⟨rfl, ρ', F, R, e'⟩ := q
      have z := y Γ' H' ρ' s' R e' (fr.stmt F e0.st e'.st)
      rw [e2] at z
      exact wpAny_mono z (fun f s'' ⟨v', ρ'', h1, F', R', e'⟩ => ⟨v', ρ'', h1, F.trans F', R', e'⟩) fun _ _ q => q.elim
    | exc c2 Γ2 H2 =>
      refine wpAny_execs_cons (wpAny_mono x (fun f s' q => ?_) fun _ _ q => q.elim)
      obtain ⟨rfl, ρ', F, R, e'⟩ := q
      have z := y Γ' H' ρ' s' R e' (fr.stmt F e0.st e'.st)
      rw [e2] at z
      exact wpAny_mono z (fun _ _ q => q.elim) fun ex s'' ⟨ρ'', F', R', e', fl⟩ => ⟨ρ'', F.trans F', R', e', fl.older F.live⟩
theorem sk_assign {i : Nat} {y : Str} {mv : Val} {v : Value} (ha : Apart ns) (R : Rel cx H ρ s) (e0 : EnvOk cx env sc ns Γ ρ s.heap) (ho : isOwn sc ns i y = true) (hv : VR cx ρ s.heap mv v) :
    SimSK cx env sc ns (.next (Γ.set i (some mv)) H) (fun Q E s => wpAny (model cx.prog cx.w) A (storeName env y v) (fun _ => Q .next) E s) ρ s :=
  store_var e0.len ha R e0 ho hv fun h' tk F' R' e' _ => ⟨rfl, ρ, F', R', e'⟩
theorem monoK_store {y : Str} {v : Value} : MonoK (α := Flow) fun Q E s => wpAny (model cx.prog cx.w) A (storeName env y v) (fun _ => Q .next) E s := fun _ _ _ _ _ h k1 k2 => wpAny_mono h (fun _ _ => k1 _ _) k2
end
end Mine
-- part MWalk
namespace Mine
open PySem
section
variable {cx : Cx} {N : Names} {A : Around} {Φ : Funs} {l : List Env} {d : Nat} {env : Env} {sc : Scope} {ns : List (Option Str)} {Γ : Env'} {H : Hp} {ρ ρ' : Rho} {s : Shared}
noncomputable def PostS (cx : Cx) (env : Env) (sc : Scope) (ns : List (Option Str)) (ρ : Rho) (h : Heap) (r : ResS) (Q : Flow → Shared → Prop) (E : Value → Shared → Prop) : Prop :=
  match r with
  | .bad => True
  | .next Γ' H' => ∀ s' ρ', FullS env ρ h ρ' s'.heap → Rel cx H' ρ' s' → EnvOk cx env sc ns Γ' ρ' s'.heap → Q .next s'
  | .ret v H' => ∀ s' ρ' v', FullS env ρ h ρ' s'.heap → Rel cx H' ρ' s' → (VR cx ρ' s'.heap v v' ∧ EnvSt cx env sc ρ' s'.heap) → Q (.ret v') s'
  | .exc c Γ' H' => ∀ e s' ρ', FullS env ρ h ρ' s'.heap → Rel cx H' ρ' s' → EnvOk cx env sc ns Γ' ρ' s'.heap → Flying cx ρ' h s'.heap c e → E e s'
theorem SimSK.ofPost {r : ResS} {T : (Flow → Shared → Prop) → (Value → Shared → Prop) → Shared → Prop} (k : ∀ Q E, r ≠ .bad → PostS cx env sc ns ρ s.heap r Q E → T Q E s) : SimSK cx env sc ns r T ρ s := by
  cases r with
  | bad => trivial
  | next Γ' H' => exact k _ _ (fun q => by cases q) fun s' ρ' F R e => ⟨rfl, ρ', F, R, e⟩
  | ret v H' => exact k _ _ (fun q => by cases q) fun s' ρ' v' F R e => ⟨v', ρ', rfl, F, R, e⟩
  | exc c Γ' H' => exact k _ _ (fun q => by cases q) fun e s' ρ' F R e' fl => ⟨ρ', F, R, e', fl⟩
theorem FullS.fresh {h h1 h2 : Heap} {qs : List Addr} (F : FullS env ρ h ρ' h1) (hq : ∀ q ∈ qs, h.get? q = none) (hs : ∀ b o, b ∉ qs → ¬ Owned ρ' b → h1.get? b = some o → h2.get? b = some o) (lv : Live h1 h2) : FullS env ρ h ρ' h2 := by
  refine ⟨F.grow, fun b o e n n1 n2 => ?_, F.live.trans lv⟩
  refine ex1 (F.keep b o e n n1 n2) fun o' zz => aNd2 zz fun e' u => ?_
  refine ⟨o', hs b o' (fun w => ?_) (F.grow.not n e) e', u⟩
  rw [hq b w] at e; exact nomatch e
theorem EnvOk.priv {h h' : Heap} {qs : List Addr} (x : EnvOk cx env sc ns Γ ρ h) (hs : ∀ b o, b ∉ qs → ¬ Owned ρ b → h.get? b = some o → h'.get? b = some o) (hq : ∀ q ∈ qs, ∃ o, h.get? q = some o ∧ IterO o) (st : Step ρ h ρ h') : EnvOk cx env sc ns Γ ρ h' := by
  have nl : env.locals ∉ qs := fun w => by refine ex1 (hq _ w) fun o zz => aNd2 zz fun e i => ?_; exact x.st.notLoc e i.notDict rfl
  have nc : ∀ y c, env.cells.lookup y = some c → c ∉ qs := fun y c hc w => by refine ex1 (hq _ w) fun o zz => aNd2 zz fun e i => ?_; exact x.st.notCell e i.notCell y hc
  have kl : ∀ o, h.get? env.locals = some o → ∃ o', h'.get? env.locals = some o' ∧ o'.data = o.data := fun o e => ⟨o, hs _ o nl x.st.locN e, rfl⟩
  have kc : ∀ y c, env.cells.lookup y = some c → ∀ o, h.get? c = some o → ∃ o', h'.get? c = some o' ∧ o'.data = o.data := fun y c hc o e => ⟨o, hs _ o (nc y c hc) (x.st.cells y c hc).2.1 e, rfl⟩
  obtain ⟨m, hm⟩ := x.st.loc
  refine ⟨⟨x.st.fn, x.st.glob, x.st.blt, x.st.kinds, ⟨m, Heap_Ns_keep hm kl⟩, x.st.locN, x.st.locB, fun y c hc => ?_, x.st.hasCell, x.st.apart⟩, x.len, fun i y mv hi hm => ?_⟩
  · refine aNd3 (x.st.cells y c hc) fun zn0 a b => ?_; obtain ⟨v, hv⟩ := zn0
    exact ⟨⟨v, IsCell_keep hv (kc y c hc)⟩, a, b⟩
  · refine ex1 (x.vals i y mv hi hm) fun v zz => aNd2 zz fun hv r => ?_
    refine ⟨v, ?_, r.step st⟩
    rcases hv with ⟨k, m, hm, e⟩ | ⟨k, c, hc, e⟩
    · exact .inl ⟨k, m, Heap_Ns_keep hm kl, e⟩
    · exact .inr ⟨k, c, hc, IsCell_keep e (kc y c hc)⟩
structure Walk (cx : Cx) (A : Around) (it : Value) (target : Expr) (xs : List Val) (ck : Hp → Bool) where
  Ok : Nat → Rho → Heap → Prop
  priv : List Addr
  obj : ∀ {i ρ h}, Ok i ρ h → ∀ q ∈ priv, (∃ o, h.get? q = some o ∧ IterO o) ∧ ¬ Owned ρ q
  step : ∀ {i ρ h ρ' h'}, Ok i ρ h → Step ρ h ρ' h' → (∀ q ∈ priv, (∀ o, h.get? q = some o → h'.get? q = some o) ∧ ¬ Owned ρ' q) → Ok i ρ' h'
  item : ∀ {i : Nat} {ρ : Rho} {H : Hp} {s : Shared} {m : Val} {Q : Value → Shared → Prop} {E E' : Value → Shared → Prop} {QQ : Option Value → Shared → Prop}, Rel cx H ρ s → Ok i ρ s.heap → ck H = true → xs[i]? = some m → (∀ q ∈ priv, cx.h₀.get? q = none) →
    (∀ v s₁, wpAny (model cx.prog cx.w) A (letOwnedTupleGo target it v) (fun _ s₂ => Q v s₂) E' s₁ → QQ (some v) s₁) →
    (∀ v h' tk, Rel cx H ρ { s with heap := h', toks := tk } → Step ρ s.heap ρ h' → (∀ b o, b ∉ priv → ¬ Owned ρ b → s.heap.get? b = some o → h'.get? b = some o) → Live s.heap h' → VR cx ρ h' m v → Ok (i + 1) ρ h' → Q v { s with heap := h', toks := tk }) →
    wpAny (model cx.prog cx.w) A (pyNext it) QQ E s
  fin : ∀ {i : Nat} {ρ : Rho} {H : Hp} {s : Shared} {Q : Option Value → Shared → Prop} {E : Value → Shared → Prop}, Rel cx H ρ s → Ok i ρ s.heap → ck H = true → xs[i]? = none → (∀ q ∈ priv, cx.h₀.get? q = none) →
    (∀ h' tk, Rel cx H ρ { s with heap := h', toks := tk } → Step ρ s.heap ρ h' → (∀ b o, b ∉ priv → ¬ Owned ρ b → s.heap.get? b = some o → h'.get? b = some o) → Q none { s with heap := h', toks := tk }) →
    wpAny (model cx.prog cx.w) A (pyNext it) Q E s
noncomputable def BindOk (cx : Cx) (A : Around) (env : Env) (sc : Scope) (ns : List (Option Str)) (target : Expr) (bind : Val → Env' → Option Env') : Prop :=
  ∀ (Γ Γ' : Env') (H : Hp) (ρ : Rho) (s : Shared) (m : Val) (v : Value) (Q : Unit → Shared → Prop) (E : Value → Shared → Prop), bind m Γ = some Γ' → Rel cx H ρ s → EnvOk cx env sc ns Γ ρ s.heap → VR cx ρ s.heap m v →
    (∀ h' tk, FullS env ρ s.heap ρ h' → Rel cx H ρ { s with heap := h', toks := tk } → EnvOk cx env sc ns Γ' ρ h' → Q () { s with heap := h', toks := tk }) → wpAny (model cx.prog cx.w) A (assign target env v) Q E s
theorem bind_name {i : Nat} {y : Str} {py : Pos} (ha : Apart ns) (ho : isOwn sc ns i y = true) : BindOk cx A env sc ns (.Name y py) (bind1 i) := by
  intro Γ Γ' H ρ s m v Q E hb R e0 vr k
  cases hb
  exact wpAny_assign_Name (store_var e0.len ha R e0 ho vr fun h' tk F R' e' _ => k h' tk F R' e')
theorem loop_raise {H : Hp} {c : Nat} {e : Value} {h : Heap} {ρ₀ : Rho} {E : Value → Shared → Prop} (hfr : A.frames = some (env :: l)) (R : Rel cx H ρ s) (fr : FramesOk cx (env :: l) ρ s.heap) (e0 : EnvOk cx env sc ns Γ ρ s.heap) (lb : Live cx.h₀ h) (F : FullS env ρ₀ h ρ s.heap) (fl : Flying cx ρ h s.heap c e)
    (k : ∀ s', FullS env ρ₀ h ρ s'.heap → Rel cx H ρ s' → EnvOk cx env sc ns Γ ρ s'.heap → Flying cx ρ h s'.heap c e → E e s') :
    notedBy (model cx.prog cx.w) A env (fun e s' => cameBackBy (model cx.prog cx.w) A env E e s') e s := by
  refine hideG fun G kG => ?_
  refine aNd2 (fr env (.head _)) fun _ zz => ex2 zz fun L _ zz => aNd2 zz fun hf _ => ?_
  refine kG ?_
  refine wp_note hfr hf fr R lb F.live fl fun h1 o1 fl1 => wp_back (s := { s with heap := h1 }) lb fl1 fun h2 o2 fl2 => ?_
  have o := o1.trans o2
  exact k { s with heap := h2 } (o.fullS F) (o.rel R) (o.envK e0) fl2.to
theorem sim_loop {it : Value} {target : Expr} {xs : List Val} {ck : Hp → Bool} {bind : Val → Env' → Option Env'} {body : MSs} {stmts : List Stmt} {ρ₁ : Rho} {s₁ : Shared} (W : Walk cx A it target xs ck) (hfr : A.frames = some (env :: l)) (hB : BindOk cx A env sc ns target bind)
    (hb : SimS cx A (env :: l) env sc ns (execs stmts env) (execSs cx.T Φ body))
    (e1 : EnvOk cx env sc ns Γ ρ₁ s₁.heap) (fr : FramesOk cx (env :: l) ρ₁ s₁.heap) (lvB : Live cx.h₀ s₁.heap) (hpriv : ∀ q ∈ W.priv, s₁.heap.get? q = none)
    {s : Shared} {H : Hp} {ρ : Rho} (F0 : FullS env ρ₁ s₁.heap ρ s.heap) (R0 : Rel cx H ρ s) (e0 : EnvOk cx env sc ns Γ ρ s.heap) (ok : W.Ok 0 ρ s.heap) {Q : Flow → Shared → Prop} {E : Value → Shared → Prop}
    (nb : eachL ck bind (execSs cx.T Φ body) xs Γ H ≠ .bad) (p : PostS cx env sc ns ρ₁ s₁.heap (eachL ck bind (execSs cx.T Φ body) xs Γ H) Q E) :
    codeAny (model cx.prog cx.w) A (.forLoop target it stmts [] env) (fun r s' => match r with | .ok f => Q f s' | .error e => cameBackBy (model cx.prog cx.w) A env E e s') s := by
  generalize hres : eachL ck bind (execSs cx.T Φ body) xs Γ H = res at nb p
  refine codeAny_forLoop_any (fun n s => ∃ i Γ H ρ, FullS env ρ₁ s₁.heap ρ s.heap ∧ Rel cx H ρ s ∧ EnvOk cx env sc ns Γ ρ s.heap ∧ W.Ok i ρ s.heap ∧ i ≤ xs.length ∧ n = xs.length + 1 - i ∧ eachL ck bind (execSs cx.T Φ body) (xs.drop i) Γ H = res) ?_ (xs.length + 1)
    ⟨0, Γ, H, ρ, F0, R0, e0, ok, Nat.zero_le _, rfl, hres⟩
  have privB : ∀ q ∈ W.priv, cx.h₀.get? q = none := fun q hq => lvB.none (hpriv q hq)
  clear F0 R0 e0 ok hres
  intro n s zz
  refine ex4 zz fun i Γ H ρ zz => aNd7 zz fun F R e0 ok hi hr0 hr => ?_
  cases hx : xs[i]? with
  | none =>
    rw [List.drop_eq_nil_of_le (List.getElem?_eq_none_iff.mp hx)] at hr
    unfold eachL at hr
    by_cases ckh : ck H = true
    · rw [if_pos ckh] at hr
      subst hr
      refine W.fin R ok ckh hx privB fun h' tk R' st ex => ?_
      refine wpAny_execs_nil ?_
      have e' : EnvOk cx env sc ns Γ ρ h' := e0.priv ex (fun q hq => (W.obj ok q hq).1) st
      have F' : FullS env ρ₁ s₁.heap ρ h' := by
        refine ⟨F.grow, fun b o e n n1 n2 => ?_, fun b o e => ?_⟩
        · refine ex1 (F.keep b o e n n1 n2) fun o' zz => aNd2 zz fun eo' u => ?_
          exact ⟨o', ex b o' (fun w => by rw [hpriv b w] at e; cases e) (F.grow.not n e) eo', u⟩
        · by_cases ow : Owned ρ b
          · exact R'.owned_lt ow
          · obtain ⟨o', eo'⟩ := F.live b o e
            exact ⟨o', ex b o' (fun w => by rw [hpriv b w] at e; cases e) ow eo'⟩
      exact p _ ρ F' R' e'
    · rw [if_neg ckh] at hr; exact absurd hr.symm nb
  | some m =>
    have lt : i < xs.length := (List.getElem?_eq_some_iff.mp hx).1
    have hdrop : xs.drop i = m :: xs.drop (i + 1) := by
      rw [List.drop_eq_getElem_cons lt]
      rw [List.getElem?_eq_getElem lt] at hx
      cases hx; rfl
    rw [hdrop] at hr
    unfold eachL at hr
    by_cases ckh : ck H = true
    · rw [if_pos ckh] at hr
      cases hbd : bind m Γ with
      | none => rw [hbd] at hr; exact absurd hr.symm nb
      | some Γ1 =>
        rw [hbd] at hr
        dsimp only at hr
        refine W.item R ok ckh hx privB (fun v s₁ h => h) fun v h' tk R' st ex lv vr ok' => ?_
        · -- what comes behind the item
          have e' : EnvOk cx env sc ns Γ ρ h' := e0.priv ex (fun q hq => (W.obj ok q hq).1) st
          have F' : FullS env ρ₁ s₁.heap ρ h' := F.fresh hpriv ex lv
          refine hB Γ Γ1 H ρ { s with heap := h', toks := tk } m v _ _ hbd R' e' vr fun h2 tk2 F2 R2 e2 => ?_
          have F12 : FullS env ρ₁ s₁.heap ρ h2 := F'.trans F2
          have priv2 : ∀ q ∈ W.priv, (∀ o, h'.get? q = some o → h2.get? q = some o) ∧ ¬ Owned ρ q := fun q hq => by
            obtain ⟨⟨o, eo, io⟩, no⟩ := W.obj ok' q hq
            refine ⟨fun o2 eo2 => ?_, no⟩
            rw [eo] at eo2; cases eo2
            refine ex1 (F2.keep q o eo no (e'.st.notLoc eo io.notDict) (e'.st.notCell eo io.notCell)) fun o3 zz => aNd2 zz fun eo3 u => ?_
            rw [eo3, u.exact io.notDict]
          have ok2 : W.Ok (i + 1) ρ h2 := W.step ok' (FullS.step e'.st F2) priv2
          have fr2 : FramesOk cx (env :: l) ρ h2 := fr.stmt F12 e1.st e2.st
          have B := hb Γ1 H ρ { s with heap := h2, toks := tk2 } R2 e2 fr2
          cases hbody : execSs cx.T Φ body Γ1 H with
          | bad => rw [hbody] at hr; exact absurd hr.symm nb
          | next Γ3 H3 =>
            rw [hbody] at hr B
            dsimp only [thenS] at hr
            refine wpAny_mono B (fun f s3 q => ?_) fun _ _ q => q.elim
            refine aNd2 q fun zr0 zz => ex1 zz fun ρ3 zz => aNd3 zz fun F3 R3 e3 => ?_; subst zr0
            refine ⟨xs.length + 1 - (i + 1), by exact o137 lt hr0, i + 1, Γ3, H3, ρ3, F12.trans F3, R3, e3, ?_, lt, rfl, hr⟩
            refine W.step ok2 (FullS.step e2.st F3) fun q hq => ?_
            refine hideG fun G kG => ?_
            obtain ⟨⟨o, eo, io⟩, no⟩ := W.obj ok2 q hq
            refine kG ?_
            refine ⟨fun o2 eo2 => ?_, F3.grow.not no eo⟩
            rw [eo] at eo2; cases eo2
            refine ex1 (F3.keep q o eo no (e2.st.notLoc eo io.notDict) (e2.st.notCell eo io.notCell)) fun o3 zz => aNd2 zz fun eo3 u => ?_
            rw [eo3, u.exact io.notDict]
          | ret v3 H3 =>
            rw [hbody] at hr B
            dsimp only [thenS] at hr
            subst hr
            refine wpAny_mono B (fun f s3 q => ?_) fun _ _ q => q.elim
            refine hideG fun G kG => ?_
            refine ex2 q fun v' ρ3 zz => aNd4 zz fun zr2 F3 R3 vr3 => ?_; subst zr2
            refine kG ?_
            exact p s3 ρ3 v' (F12.trans F3) R3 vr3
          | exc c3 Γ3 H3 =>
            rw [hbody] at hr B
            dsimp only [thenS] at hr
            subst hr
            refine wpAny_mono B (fun _ _ q => q.elim) fun e s3 ⟨ρ3, F3, R3, e3, fl⟩ => ?_
            exact loop_raise hfr R3 (fr.stmt (F12.trans F3) e1.st e3.st) e3 lvB (F12.trans F3) (fl.older F12.live) fun s4 F4 R4 e4 fl4 => p e s4 ρ3 F4 R4 e4 fl4
    · rw [if_neg ckh] at hr; exact absurd hr.symm nb
noncomputable def plainWalk (hh : A.handled = none) (xs : List Val) (I : Addr) (src : Option Nat) (y : Str) (py : Pos) : Walk cx A (.ref I) (.Name y py) xs (chk src xs) where
  Ok i ρ h := ItOk cx xs I i ρ h src ∧ ¬ Owned ρ I
  priv := [I]
  obj := fun ⟨h1, h2⟩ q hq => by rw [List.mem_singleton.mp hq]; exact ⟨h1.obj, h2⟩
  step := fun ⟨h1, h2⟩ st k => ⟨h1.step st (k I (.head _)).1, (k I (.head _)).2⟩
  item := by
    intro i ρ H s m Q E E' QQ R ⟨ok, no⟩ ck hx hb qq k
    refine ex1 ok.obj fun o zz => aNd2 zz fun e io => ?_
    refine iter_item R ok ck hx fun v h' tk hs hl kk => qq v _ ?_
    obtain ⟨o', e'⟩ := hl
    have st : Step ρ s.heap ρ h' := Step.but e' e hs io.not.1 io.not.2
    obtain ⟨vr, ok'⟩ := kk st
    refine wpAny_pure (k v h' tk (R.but e' e hs io.not.1 io.not.2 no (hb I (.head _))) st (fun b o nb _ eb => by rw [hs.2 b (fun w => nb (w ▸ .head _))]; exact eb) (SameBut.live hs e') vr ⟨ok', no⟩)
  fin := by
    intro i ρ H s Q E R ⟨ok, no⟩ ck hx hb k
    refine ex1 ok.obj fun o zz => aNd2 zz fun e io => ?_
    refine iter_end hh R ok ck hx fun h' tk he => ?_
    exact k h' tk (R.ext e he io.not.1 io.not.2 no (hb I (.head _))) (Step.ext e he io.not.1 io.not.2) fun b o nb _ eb => he b o (fun w => nb (w ▸ .head _)) eb
theorem cameBack_mono {E E' : Value → Shared → Prop} {e : Value} {M : Model} (h : cameBackBy M A env E e s) (k : ∀ e s, E e s → E' e s) : cameBackBy M A env E' e s := wpAny_mono h (fun _ _ => k _ _) k
theorem sim_each {i : Nat} {it : ME} {body : MSs} {y : Str} {x : Expr} {stmts : List Stmt} {py pos : Pos} (hh : A.handled = none) (hfr : A.frames = some (env :: l)) (ha : Apart ns) (ho : isOwn sc ns i y = true) (hn : notSet x = true)
    (hx : ∀ Γ : Env', Γ.length = ns.length → EOk cx A ((Amb.env cx env sc ns Γ).and (Amb.frames cx (env :: l))) Φ env Γ it x) (hb : SimS cx A (env :: l) env sc ns (execs stmts env) (execSs cx.T Φ body)) :
    SimS cx A (env :: l) env sc ns (exec (.For (.Name y py) x stmts [] pos) env) (execS cx.T Φ (.each i it body)) := by
  intro Γ H ρ s R e0 fr
  refine SimSK.to ?_
  refine SimSAt.bindK (K := fun xv Q E s => wpAny (model cx.prog cx.w) A (pyIter xv) (fun it s₂ => codeAny (model cx.prog cx.w) A (.forLoop (.Name y py) it stmts [] env) (fun r s' => match r with | .ok f => Q f s' | .error e => cameBackBy (model cx.prog cx.w) A env E e s') s₂) E s) e0 ((hx Γ e0.len).val H ρ s R ⟨e0, fr⟩) ?_ ?_ ?_
  · intro v xv H1 ρ1 s1 _ F1 R1 e1 vr
    refine SimSK.look fun pr hp => ?_
    obtain ⟨xs, src⟩ := pr
    refine SimSK.ofPost fun Q E nb p => ?_
    refine iter_start R1 vr hp fun o go it0 => ?_
    have F2 : Full ρ1 s1.heap ρ1 (s1.heap.push o) := Full.push _ _ _
    exact sim_loop (plainWalk hh xs s1.heap.objs.size src y py) hfr (bind_name ha ho) hb e1 ((Amb.frames cx (env :: l)).st _ _ _ _ fr F1) (fun b o e => ⟨o, R1.base b o e⟩) (fun q hq => by rw [List.mem_singleton.mp hq]; exact fresh_none _) F2.toS (R1.push o s1.toks) (e1.full F2) ⟨it0, R1.fresh_not (fresh_none _)⟩ nb p
  · intro xv Q E Q' E' s h k1 k2
    exact wpAny_mono h (fun it s₂ h2 => codeAny_mono h2 fun r s' hr => by
      cases r with
      | ok f => exact k1 _ _ hr
      | error e => exact cameBack_mono hr k2) k2
  · intro Q E h
    exact wpAny_For h (fun xv => foldedSet_of hn env xv)
end
end Mine
-- part MZip
namespace Mine
open PySem
section
variable {cx : Cx} {N : Names} {A : Around} {Φ : Funs} {l : List Env} {d : Nat} {env : Env} {sc : Scope} {ns : List (Option Str)} {Γ : Env'} {H : Hp} {ρ ρ' : Rho} {s : Shared}
theorem Rel.turn (R : Rel cx H ρ s) {l : Nat} {p : Addr × Addr} {o : HObj} {h' : Heap} {tk : Nat} (hl : ρ[l]? = some p) (hp : H[l]? = some o) (k : ∀ b ob, s.heap.get? b = some ob → Owned ρ b → b ≠ p.1 → b ≠ p.2 → h'.get? b = some ob) (st : Step ρ s.heap ρ h') (kb : ∀ b o, cx.h₀.get? b = some o → h'.get? b = some o) (x : HR cx ρ h' o p) :
    Rel cx H ρ { s with heap := h', toks := tk } := by
  refine ⟨R.len, fun i ob q hi hq => ?_, R.apart, R.new, kb, R.sys, ?_⟩
  · by_cases e : i = l
    · subst e
      rw [hl] at hq; cases hq
      rw [hp] at hi; cases hi
      exact x
    · refine (R.objs i ob q hi hq).step st fun b ob' hb eb => ?_
      refine aNd3 (R.apart i l q p e hq hl) fun zn0 a3 a4 => ?_; obtain ⟨a1, a2⟩ := zn0
      have ow : Owned ρ b := ⟨q, List.mem_of_getElem? hq, hb⟩
      rcases hb with rfl | rfl
      · exact k _ _ eb ow a1 a2
      · exact k _ _ eb ow a3 a4
  · refine ex2 R.rest fun h t hr0 => ?_; refine Eq.symm hr0 ▸ ?_
    exact ⟨h', tk, rfl⟩
set_option tactic.hygienic true in
theorem bind_pair (hh : A.handled = none) {i j : Nat} {y z : Str} {py pz pt : Pos} {k : Nat} (ha : Apart ns) (hy : isOwn sc ns i y = true) (hz : isOwn sc ns j z = true) : BindOk cx A env sc ns (.Tuple [.Name y py, .Name z pz] k pt) (bind2 i j) := by
  intro Γ Γ' H ρ s m v Q E hb R e0 vr kk
  unfold bind2 at hb
  split at hb
  · rename_i a b
    cases hb
    cases vr with
    | @tup t vs n ms g no zz r =>
      cases r with
      | @cons _ va _ _ ra r =>
        cases r with
        | @cons _ vb _ _ rb r =>
          cases r
          refine wpAny_assign_Tuple (items := [va, vb].toArray) hh ⟨_, g, rfl, n, rfl⟩ rfl rfl fun h1 ex => ?_
          have kp : ∀ b o, s.heap.get? b = some o → h1.get? b = some o := fun b o e => ex b o (Nat.ne_of_lt (Heap.lt_size e)) e
          have F1 : Full ρ s.heap ρ h1 := Full.more kp
          have R1 : Rel cx H ρ { s with heap := h1 } := R.more (tk := s.toks) kp
          refine wpAny_assignInOrder_more (wpAny_assign_Name (store_var (s := { s with heap := h1 }) (e0.full F1).len ha R1 (e0.full F1) hy (ra.step F1.step) fun h2 tk2 F2 R2 e2 _ => ?_))
          have St2 := FullS.step (e0.full F1).st F2
          refine wpAny_assignInOrder_more (wpAny_assign_Name (store_var (s := { s with heap := h2, toks := tk2 }) e2.len ha R2 e2 hz ((rb.step F1.step).step St2) fun h3 tk3 F3 R3 e3 _ => ?_))
          exact wpAny_assignInOrder_none (kk h3 tk3 ((F1.toS.trans F2).trans F3) R3 e3)
  · cases hb
theorem zipO {h : Heap} {z TI TO : Addr} {f : Value} (x : IsZip h z TI TO f) : ∃ o, h.get? z = some o ∧ IterO o := ⟨_, x, ⟨_, rfl⟩, _, rfl, by decide⟩
theorem listIterO {h : Heap} {i l : Addr} {k : Nat} (x : h.IsListIter i l k) : ∃ o, h.get? i = some o ∧ IterO o := by refine ex1 x fun o zz => aNd3 zz fun e c d => ?_; exact ⟨o, e, ⟨_, d⟩, _, c, by decide⟩
theorem iterO_ne {h : Heap} {a b : Addr} {o : Obj} (x : ∃ o, h.get? a = some o ∧ IterO o) (e : h.get? b = some o) (n : ∀ vs, o.data ≠ .fields vs) : a ≠ b := fun w => by
  refine ex1 x fun o' zz => aNd2 zz fun e' zz => aNd2 zz fun zn2 _ => ?_; obtain ⟨vs, d⟩ := zn2
  rw [w, e] at e'; cases e'
  exact n vs d
noncomputable def RawIt (_ : Bool) (h : Heap) (I a : Addr) (k : Nat) (items : Array Value) : Prop := h.IsListIter I a k ∧ h.IsList a items
section
variable {b : Bool} {h h' : Heap} {I a c : Addr} {k : Nat} {items : Array Value}
theorem RawIt.ext (x : RawIt b h I a k items) (hs : Heap.ExtBut c h h') (n1 : I ≠ c) (n2 : a ≠ c) : RawIt b h' I a k items := ⟨x.1.extBut hs n1, x.2.extBut hs n2⟩
theorem RawIt.obj (x : RawIt b h I a k items) : ∃ o, h.get? I = some o ∧ IterO o := listIterO x.1
theorem RawIt.ne (x : RawIt b h I a k items) : a ≠ I := fun w => by
  refine ex1 x.2 fun o' zz => aNd3 zz fun e' c zz => ex1 zz fun n d' => ?_
  exact iterO_ne x.obj e' (fun vs q => by rw [d'] at q; cases q) w.symm
end
theorem next_item {b : Bool} {I a : Addr} {k : Nat} {items : Array Value} {x : Value} {Q : Value → Shared → Prop} {E : Value → Shared → Prop} (it : RawIt b s.heap I a k items) (hx : items[k]? = some x)
    (hQ : ∀ h', RawIt b h' I a (k + 1) items → Heap.SameBut I s.heap h' → Q x { s with heap := h' }) : wpAny (model cx.prog cx.w) A (Builtin.SmallTypes.nextOf (.ref I)) Q E s :=
  wpAny_nextOf_list_item it.1 it.2 hx fun h' i' hs => hQ h' ⟨i', it.2.extBut hs.extBut it.ne⟩ hs
theorem next_end {b : Bool} {I a : Addr} {k : Nat} {items : Array Value} {Q : Value → Shared → Prop} {E : Value → Shared → Prop} (hh : A.handled = none) (it : RawIt b s.heap I a k items) (hx : items[k]? = none)
    (hE : ∀ h' e, Heap.ExtBut I s.heap h' → (∃ o, h'.get? e = some o ∧ o.cls = .type "StopIteration") → E (.ref e) { s with heap := h' }) : wpAny (model cx.prog cx.w) A (Builtin.SmallTypes.nextOf (.ref I)) Q E s :=
  wpAny_nextOf_list_end hh it.1 it.2 hx hE
theorem zip_pair {b1 b2 : Bool} {z TI TO i1 i2 a1 a2 : Addr} {k1 k2 : Nat} {xs ys : Array Value} {x y u v : Value} {Q : Option Value → Shared → Prop} {E : Value → Shared → Prop} (D : ZipApart z TI TO i1 i2 a1 a2)
    (hz : IsZip s.heap z TI TO .none) (hTI : IsPair s.heap TI (.ref i1) (.ref i2)) (hTO : IsPair s.heap TO u v) (h1 : RawIt b1 s.heap i1 a1 k1 xs) (h2 : RawIt b2 s.heap i2 a2 k2 ys) (hx : xs[k1]? = some x) (hy : ys[k2]? = some y)
    (hQ : ∀ h', IsZip h' z TI TO (rawInt s.heap.objs.size) → IsPair h' TO x y → RawIt b1 h' i1 a1 (k1 + 1) xs → RawIt b2 h' i2 a2 (k2 + 1) ys → IsPair h' s.heap.objs.size x y →
      (∀ c o, c ≠ z → c ≠ TO → c ≠ i1 → c ≠ i2 → s.heap.get? c = some o → h'.get? c = some o) → Q (some (.ref s.heap.objs.size)) { s with heap := h' }) : wpAny (model cx.prog cx.w) A (pyNext (.ref z)) Q E s := by
  have hT : s.TypeIs (.ref z) "zip" := ⟨_, hz, rfl⟩
  unfold pyNext
  refine wpAny_bind (wpAny_attempt (wpAny_callSpecial?_slot (name := Str.ofString "__next__") hT F.slot_zip_next (wpAny_call_entry F.slot_zip_next hT F.entry_zip_next ?_ (F.args_zip_next_1 _))))
  show wpAny _ _ (field (.ref z) 2 >>= _) _ _ _
  refine wpAny_bind (wpAny_field hz rfl (x := .bool false) rfl ?_)
  refine wpAny_bind (wpAny_field hz rfl (x := .ref TI) rfl ?_)
  refine wpAny_bind (wpAny_seqItems hTI rfl ?_)
  refine wpAny_bind ?_
  unfold Builtin.SmallTypes.ownedTupleIsFree
  refine wpAny_bind (wpAny_field hz rfl (x := .none) rfl (wpAny_pure ?_))
  simp only [if_true]
  refine wpAny_bind (wpAny_rule ?_)
  refine wpAny_bind (wpAny_field hz rfl (x := .ref TO) rfl ?_)
  refine wpAny_bind (wpAny_setField_rec hz (by simp) fun ha za sa => ?_)
  replace za : IsZip ha z TI TO .ellipsis := za
  refine wpAny_bind ?_
  simp only [List.zipIdx_cons, List.zipIdx_nil, List.forIn_cons, List.forIn_nil]
  refine wpAny_bind (wpAny_bind (wpAny_onRaise ?_))
  refine wpAny_bind (next_item (h1.ext sa.extBut D.i1z D.l1z) hx fun hb ib sb => wpAny_pure ?_)
  have tb : IsPair hb TO u v := sb.extBut _ _ D.TOi1 (sa.extBut _ _ D.TOz hTO)
  refine wpAny_bind (wpAny_seqItems tb rfl ?_)
  refine wpAny_bind (wpAny_updateSeq_pair tb fun hc tc sc => ?_)
  replace tc : IsPair hc TO x v := tc
  refine wpAny_bind (wpAny_letGo (wpAny_pure ?_))
  refine wpAny_bind (wpAny_bind (wpAny_onRaise ?_))
  refine wpAny_bind (next_item (((h2.ext sa.extBut D.i2z D.l2z).ext sb.extBut D.i12.symm D.l2i1).ext sc.extBut D.TOi2.symm D.l2TO) hy fun hd id_ sd => wpAny_pure ?_)
  have td : IsPair hd TO x v := sd.extBut _ _ D.TOi2 tc
  refine wpAny_bind (wpAny_seqItems td rfl ?_)
  refine wpAny_bind (wpAny_updateSeq_pair td fun he te se => ?_)
  replace te : IsPair he TO x y := te
  refine wpAny_bind (wpAny_letGo (wpAny_pure (wpAny_pure ?_)))
  refine wpAny_bind (wpAny_seqItems te rfl ?_)
  refine wpAny_bind (wpAny_newTuple ?_)
  have sz : he.objs.size = s.heap.objs.size := by rw [se.1, sd.1, sc.1, sb.1, sa.1]
  have ze : IsZip he z TI TO .ellipsis := se.extBut _ _ D.TOz.symm (sd.extBut _ _ D.i2z.symm (sc.extBut _ _ D.TOz.symm (sb.extBut _ _ D.i1z.symm za)))
  have lz : z < he.objs.size := Heap.lt_size ze
  refine wpAny_bind ?_
  unfold Builtin.SmallTypes.ownedTupleHandOut
  have zf : IsZip (he.push { cls := .type "tuple", data := .seq #[x, y] }) z TI TO .ellipsis := Heap.get?_push_of_some _ ze
  refine wpAny_bind (wpAny_setField_rec zf (by simp) fun hg zg sg => ?_)
  replace zg : IsZip hg z TI TO (rawInt he.objs.size) := zg
  refine wpAny_setField_rec zg (by simp) fun hf zh sh => ?_
  replace zh : IsZip hf z TI TO (rawInt he.objs.size) := zh
  have up : Heap.ExtBut z he hf := fun c o c1 e => sh.extBut _ _ c1 (sg.extBut _ _ c1 (Heap.get?_push_of_some _ e))
  have tn : IsPair hf he.objs.size x y := sh.extBut _ _ (Nat.ne_of_gt lz) (sg.extBut _ _ (Nat.ne_of_gt lz) (Heap.get?_push_size _ rfl))
  have i1e := (((ib.ext sc.extBut D.TOi1.symm D.l1TO).ext sd.extBut D.i12 D.l1i2).ext se.extBut D.TOi1.symm D.l1TO).ext up D.i1z D.l1z
  have i2e := (id_.ext se.extBut D.TOi2.symm D.l2TO).ext up D.i2z D.l2z
  rw [sz] at zh tn
  refine wpAny_pure ⟨_, rfl, wpAny_pure ?_⟩
  rw [sz]
  exact hQ hf zh (up _ _ D.TOz te) i1e i2e tn fun c o c1 c2 c3 c4 e => up c o c1 (se.extBut _ _ c2 (sd.extBut _ _ c4 (sc.extBut _ _ c2 (sb.extBut _ _ c3 (sa.extBut _ _ c1 e)))))
theorem zip_over {b : Bool} {z TI TO i1 i2 a1 : Addr} {k1 : Nat} {xs : Array Value} {Q : Option Value → Shared → Prop} {E : Value → Shared → Prop} (hh : A.handled = none) (n1 : i1 ≠ z) (n2 : a1 ≠ z) (hz : IsZip s.heap z TI TO .none) (hTI : IsPair s.heap TI (.ref i1) (.ref i2))
    (h1 : RawIt b s.heap i1 a1 k1 xs) (hend : xs[k1]? = none)
    (hQ : ∀ h', (∀ c o, c ≠ z → c ≠ i1 → s.heap.get? c = some o → h'.get? c = some o) → Q none { s with heap := h' }) : wpAny (model cx.prog cx.w) A (pyNext (.ref z)) Q E s := by
  have hT : s.TypeIs (.ref z) "zip" := ⟨_, hz, rfl⟩
  have inner : wpAny (model cx.prog cx.w) A.in1 (Builtin.«zip.__next__» ⟨[.ref z], []⟩) (fun _ _ => False) (fun e s' => (∃ o a, e = .ref a ∧ s'.heap.get? a = some o ∧ o.cls = .type "StopIteration") ∧ ∃ h', s' = { s with heap := h' } ∧ (∀ c o, c ≠ z → c ≠ i1 → s.heap.get? c = some o → h'.get? c = some o)) s := by
    show wpAny _ _ (field (.ref z) 2 >>= _) _ _ _
    refine wpAny_bind (wpAny_field hz rfl (x := .bool false) rfl ?_)
    refine wpAny_bind (wpAny_field hz rfl (x := .ref TI) rfl ?_)
    refine wpAny_bind (wpAny_seqItems hTI rfl ?_)
    refine wpAny_bind ?_
    unfold Builtin.SmallTypes.ownedTupleIsFree
    refine wpAny_bind (wpAny_field hz rfl (x := .none) rfl (wpAny_pure ?_))
    simp only [if_true]
    refine wpAny_bind (wpAny_rule ?_)
    refine wpAny_bind (wpAny_field hz rfl (x := .ref TO) rfl ?_)
    refine wpAny_bind (wpAny_setField_rec hz (by simp) fun ha za sa => ?_)
    replace za : IsZip ha z TI TO .ellipsis := za
    refine wpAny_bind ?_
    simp only [List.zipIdx_cons, List.zipIdx_nil, List.forIn_cons, List.forIn_nil]
    refine wpAny_bind (wpAny_bind (wpAny_onRaise ?_))
    refine wpAny_bind (next_end hh (h1.ext sa.extBut n1 n2) hend fun hb e sb he => ?_)
    refine ex1 he fun oe zz => aNd2 zz fun hoe hce => ?_
    have zb : IsZip hb z TI TO .ellipsis := sb _ _ n1.symm za
    have hez : e ≠ z := fun x => by subst x; rw [zb] at hoe; cases hoe; simp at hce
    refine wpAny_setField_rec zb (by simp) fun hc _ sc => ⟨⟨oe, e, rfl, sc.extBut _ _ hez hoe, hce⟩, hc, rfl, fun c o c1 c2 x => sc.extBut _ _ c1 (sb _ _ c2 (sa.extBut _ _ c1 x))⟩
  unfold pyNext
  refine wpAny_bind (wpAny_attempt (wpAny_callSpecial?_slot (name := Str.ofString "__next__") hT F.slot_zip_next
    (wpAny_call_entry F.slot_zip_next hT F.entry_zip_next (wpAny_mono inner (fun _ _ q => q.elim) fun e s' q => ?_) (F.args_zip_next_1 _))))
  refine aNd2 q fun zn0 zz => ex1 zz fun h' zz => aNd2 zz fun zr2 hk => ?_; obtain ⟨o, a, rfl, ho, hc⟩ := zn0; subst zr2
  refine wpAny_bind (wpAny_isInstance (T := "StopIteration") (b := true) ⟨o, ho, hc⟩ isSubtype_stop ?_)
  exact wpAny_pure (hQ _ hk)
set_option tactic.hygienic true in
theorem chk_list {l : Nat} {xs : List Val} {H : Hp} (h : chk (some l) xs H = true) : H[l]? = some (.list xs) := by
  simp only [chk] at h
  split at h
  · rename_i ys hl
    rw [hl, sames_eq _ _ h]
  · cases h
theorem isHid_eq {l : Nat} {H : Hp} (h : isHid l H = true) : H[l]? = some .hid := by
  unfold isHid at h
  split at h
  · assumption
  · cases h
theorem pairUp_get : ∀ {xs ys : List Val} {i : Nat} {m : Val}, (pairUp xs ys)[i]? = some m → ∃ a b, xs[i]? = some a ∧ ys[i]? = some b ∧ m = .tup [a, b]
  | [], _, _, _, h => by simp [pairUp] at h
  | _ :: _, [], _, _, h => by simp [pairUp] at h
  | a :: xs, b :: ys, 0, m, h => by simp [pairUp] at h; exact ⟨a, b, rfl, rfl, h.symm⟩
  | a :: xs, b :: ys, i + 1, m, h => by
    have h' : (pairUp xs ys)[i]? = some m := by simpa [pairUp] using h
    refine hideG fun G kG => ?_
    refine ex2 (pairUp_get h') fun a' b' zz => aNd3 zz fun h1 h2 h3 => ?_
    refine kG ?_
    exact ⟨a', b', by simpa using h1, by simpa using h2, h3⟩
theorem pairUp_none : ∀ {xs ys : List Val} {i : Nat}, xs.length = ys.length → (pairUp xs ys)[i]? = none → xs[i]? = none
  | [], _, _, _, _ => by simp
  | _ :: _, [], _, hl, _ => by simp at hl
  | a :: xs, b :: ys, 0, _, h => by simp [pairUp] at h
  | a :: xs, b :: ys, i + 1, hl, h => by simp [pairUp] at h ⊢; have := pairUp_none (by simpa using hl) (by simpa using h); simpa using this
theorem Rel.hidAt (R : Rel cx H ρ s) {l : Nat} {p : Addr × Addr} (hH : H[l]? = some .hid) (hρ : ρ[l]? = some p) : p.2 = p.1 ∧ ∃ x y, s.heap.get? p.1 = some (tupO [x, y] 0) := by
  have := R.objs l _ p hH hρ
  generalize ho : HObj.hid = o at this
  cases this with
  | list e r z => exact nomatch ho
  | dict d r z => cases ho
  | inst _ _ _ _ _ _ _ _ _ _ => cases ho
  | hid e => exact ⟨rfl, _, _, e⟩
theorem step_priv {h h' : Heap} {qs : List Addr} (hq : ∀ q ∈ qs, Owned ρ q ∨ ∃ o, h.get? q = some o ∧ IterO o) (k : ∀ b o, b ∉ qs → h.get? b = some o → h'.get? b = some o) : Step ρ h ρ h' := by
  refine ⟨⟨[], by simp⟩, fun b o e f n => ⟨k b o (fun w => ?_) e, n⟩, fun b o C e f n => ⟨o, k b o (fun w => ?_) e, f, n⟩⟩
  · rcases hq b w with w | ⟨o', e', io⟩
    · exact n w
    · rw [e] at e'; cases e'; exact io.not.1 f
  · rcases hq b w with w | ⟨o', e', io⟩
    · exact n w
    · rw [e] at e'; cases e'; exact io.not.2 C f
inductive ZIt (cx : Cx) (xs : List Val) (I : Addr) (i : Nat) (ρ : Rho) (h : Heap) : Option Nat → Prop
  | list {l : Nat} {p : Addr × Addr} : ρ[l]? = some p → h.IsListIter I p.1 i → ZIt cx xs I i ρ h (some l)
section
variable {xs : List Val} {I : Addr} {i : Nat} {src : Option Nat}
theorem ZIt.obj {h : Heap} (x : ZIt cx xs I i ρ h src) : ∃ o, h.get? I = some o ∧ IterO o := by
  cases x with
  | list hp hi => exact listIterO hi
theorem ZIt.step {h h' : Heap} (x : ZIt cx xs I i ρ h src) (st : Step ρ h ρ' h') (k : ∀ o, h.get? I = some o → h'.get? I = some o) : ZIt cx xs I i ρ' h' src := by
  cases x with
  | list hp hi => exact .list (st.get hp) (hi.at k)
theorem ZIt.raw (R : Rel cx H ρ s) (x : ZIt cx xs I i ρ s.heap src) (ck : chk src xs H = true) : ∃ (b : Bool) (a : Addr) (vs : List Value), RawIt b s.heap I a i vs.toArray ∧ VRs cx ρ s.heap xs vs ∧ (∀ c, (∃ o, s.heap.get? c = some o ∧ IterO o) → a ≠ c) ∧
    (∀ (hl : Nat) (TO : Addr), H[hl]? = some HObj.hid → ρ[hl]? = some (TO, TO) → a ≠ TO) ∧ ∀ h', Step ρ s.heap ρ h' → RawIt b h' I a (i + 1) vs.toArray → ZIt cx xs I (i + 1) ρ h' src := by
  cases x with
  | @list l p hp hi =>
    have H1 := chk_list ck
    refine hideG fun G kG => ?_
    refine ex2 (R.listAt H1 hp) fun vs n zz => aNd4 zz fun _ g r z => ?_
    refine kG ?_
    exact ⟨true, p.1, vs, ⟨hi, _, g, rfl, n, rfl⟩, r, fun c x => (iterO_ne x g fun _ q => by cases q).symm, fun hl TO e1 e2 => (R.apart l hl _ _ (fun w => by rw [w, e1] at H1; exact nomatch H1) hp e2).1.1, fun h' st x => .list hp x.1⟩
end
structure ZOk (cx : Cx) (xs ys : List Val) (l1 l2 : Option Nat) (hl : Nat) (z TI i1 i2 : Addr) (i : Nat) (ρ : Rho) (h : Heap) : Prop where
  zip : ∃ TO, ρ[hl]? = some (TO, TO) ∧ IsZip h z TI TO .none
  ti : h.get? TI = some (tupO [.ref i1, .ref i2] 0) ∧ ¬ Owned ρ TI
  it1 : ZIt cx xs i1 i ρ h l1
  it2 : ZIt cx ys i2 i ρ h l2
  no : ¬ Owned ρ z ∧ ¬ Owned ρ i1 ∧ ¬ Owned ρ i2
noncomputable def zipWalk (hh : A.handled = none) (xs ys : List Val) (hlen : xs.length = ys.length) (l1 l2 : Option Nat) (hl : Nat) (z TI i1 i2 : Addr) (n1 : i1 ≠ z) (n2 : i2 ≠ z) (n12 : i1 ≠ i2) (elts : List Expr) (k : Nat) (pt : Pos) :
    Walk cx A (.ref z) (.Tuple elts k pt) (pairUp xs ys) (fun H' => chk l1 xs H' && chk l2 ys H' && isHid hl H') where
  Ok i ρ h := ZOk cx xs ys l1 l2 hl z TI i1 i2 i ρ h
  priv := [z, i1, i2]
  obj := by
    intro i ρ h ok q hq
    refine ex1 ok.zip fun TO zz => aNd2 zz fun _ hz => ?_
    simp only [List.mem_cons, List.not_mem_nil, or_false] at hq
    rcases hq with rfl | rfl | rfl
    · exact ⟨zipO hz, ok.no.1⟩
    · exact ⟨ok.it1.obj, ok.no.2.1⟩
    · exact ⟨ok.it2.obj, ok.no.2.2⟩
  step := by
    intro i ρ h ρ' h' ok st kk
    refine ex1 ok.zip fun TO zz => aNd2 zz fun ht hz => ?_
    have kz := kk z (by simp)
    have k1 := kk i1 (by simp)
    have k2 := kk i2 (by simp)
    have kt := st.keepT _ _ ok.ti.1 (.inl ⟨rfl, _, _, rfl⟩) ok.ti.2
    exact ⟨⟨TO, st.get ht, kz.1 _ hz⟩, kt, ok.it1.step st k1.1, ok.it2.step st k2.1, kz.2, k1.2, k2.2⟩
  item := by
    intro i ρ H s m Q E E' QQ R ok ck hx hb qq kk
    simp only [Bool.and_eq_true] at ck
    refine hideG fun G kG => ?_
    obtain ⟨⟨ck1, ck2⟩, ck3⟩ := ck
    refine ex1 ok.zip fun TO zz => aNd2 zz fun ht hz => ?_
    have H3 := isHid_eq ck3
    refine ex3 (ok.it1.raw R ck1) fun b1 a1 vs zz => aNd5 zz fun w1 r1 ne1 nt1 up1 => ?_
    refine ex3 (ok.it2.raw R ck2) fun b2 a2 ws zz => aNd5 zz fun w2 r2 ne2 nt2 up2 => ?_
    refine aNd2 (R.hidAt H3 ht) fun _ zz => ex2 zz fun x0 y0 gTO => ?_
    refine ex2 (pairUp_get hx) fun a b zz => aNd3 zz fun ha hb' zr4 => ?_; subst zr4
    refine ex1 (r1.get ha) fun va zz => aNd2 zz fun eva ra => ?_
    refine ex1 (r2.get hb') fun vb zz => aNd2 zz fun evb rb => ?_
    refine kG ?_
    have oTO : Owned ρ TO := ⟨_, List.mem_of_getElem? ht, .inl rfl⟩
    have ne : ∀ {u v : Addr}, ¬ Owned ρ u → Owned ρ v → v ≠ u := fun n o w => n (w ▸ o)
    have tiD : ∀ vs', (tupO [Value.ref i1, Value.ref i2] 0).data ≠ .fields vs' := fun vs' q => by cases q
    have oz := zipO hz
    have o1 := ok.it1.obj
    have o2 := ok.it2.obj
    have D : ZipApart z TI TO i1 i2 a1 a2 := ⟨(iterO_ne oz ok.ti.1 tiD).symm, ne ok.no.1 oTO, n1, n2, (ne ok.ti.2 oTO).symm, (iterO_ne o1 ok.ti.1 tiD).symm, (iterO_ne o2 ok.ti.1 tiD).symm, ne ok.no.2.1 oTO, ne ok.no.2.2 oTO, n12,
      ne1 z oz, nt1 hl TO H3 ht, ne1 i1 o1, ne1 i2 o2, ne2 z oz, nt2 hl TO H3 ht, ne2 i1 o1, ne2 i2 o2⟩
    refine zip_pair (x := va) (y := vb) D hz ok.ti.1 gTO w1 w2 (by simpa using eva) (by simpa using evb) fun h1 hz1 hTO1 w1' w2' hT1 hk1 => qq _ _ ?_
    refine wpAny_letOwnedTupleGo_zip hz1 fun h2 hz2 hs2 => ?_
    have zT : s.heap.objs.size ≠ z := fun w => by have := Heap.lt_size hz; rw [← w] at this; exact Nat.lt_irrefl _ this
    have keep : ∀ b o, b ∉ [z, i1, i2, TO] → s.heap.get? b = some o → h2.get? b = some o := fun b o nb eb => by
      simp only [List.mem_cons, List.not_mem_nil, or_false, not_or] at nb
      exact hs2.extBut _ _ nb.1 (hk1 b o nb.1 nb.2.2.2 nb.2.1 nb.2.2.1 eb)
    have hTO2 : h2.get? TO = some (tupO [va, vb] 0) := hs2.extBut _ _ D.TOz hTO1
    have hT2 : h2.get? s.heap.objs.size = some (tupO [va, vb] 0) := hs2.extBut _ _ zT hT1
    have w1'' := w1'.ext hs2.extBut n1 D.l1z
    have w2'' := w2'.ext hs2.extBut n2 D.l2z
    have st : Step ρ s.heap ρ h2 := step_priv (qs := [z, i1, i2, TO]) (fun q hq => by
      simp only [List.mem_cons, List.not_mem_nil, or_false] at hq
      rcases hq with rfl | rfl | rfl | rfl
      · exact .inr oz
      · exact .inr o1
      · exact .inr o2
      · exact .inl oTO) keep
    have ow : ∀ b, Owned ρ b → b ≠ z ∧ b ≠ i1 ∧ b ≠ i2 := fun b o => ⟨ne ok.no.1 o, ne ok.no.2.1 o, ne ok.no.2.2 o⟩
    have R2 : Rel cx H ρ { s with heap := h2, toks := s.toks } := by
      refine R.turn ht H3 (fun b ob eb o nb _ => keep b ob (by simp only [List.mem_cons, List.not_mem_nil, or_false, not_or]; exact ⟨(ow b o).1, (ow b o).2.1, (ow b o).2.2, nb⟩) eb) st (fun b o eb => ?_) (.hid hTO2)
      have nb : ¬ Owned ρ b := R.base_not eb
      refine keep b o ?_ (R.base b o eb)
      simp only [List.mem_cons, List.not_mem_nil, or_false, not_or]
      refine ⟨fun w => ?_, fun w => ?_, fun w => ?_, fun w => nb (w ▸ oTO)⟩
      · rw [w, hb z (by simp)] at eb; exact nomatch eb
      · rw [w, hb i1 (by simp)] at eb; exact nomatch eb
      · rw [w, hb i2 (by simp)] at eb; exact nomatch eb
    have lv : Live s.heap h2 := fun b o eb => by
      by_cases q : b ∈ [z, i1, i2, TO]
      · simp only [List.mem_cons, List.not_mem_nil, or_false] at q
        rcases q with rfl | rfl | rfl | rfl
        · exact ⟨_, hz2⟩
        · refine ex1 w1''.obj fun o zz => aNd2 zz fun e _ => ?_; exact ⟨o, e⟩
        · refine ex1 w2''.obj fun o zz => aNd2 zz fun e _ => ?_; exact ⟨o, e⟩
        · exact ⟨_, hTO2⟩
      · exact ⟨o, keep b o q eb⟩
    refine kk _ h2 s.toks R2 st (fun b o nb no eb => keep b o (by simp only [List.mem_cons, List.not_mem_nil, or_false, not_or] at nb ⊢; exact ⟨nb.1, nb.2.1, nb.2.2, fun w => no (w ▸ oTO)⟩) eb) lv ?_ ?_
    · exact .tup hT2 (R.fresh_not (fresh_none _)) (show 2 ≤ sizeLine by skip; decide) (.cons (ra.step st) (.cons (rb.step st) .nil))
    · exact ⟨⟨TO, ht, hz2⟩, st.keepT _ _ ok.ti.1 (.inl ⟨rfl, _, _, rfl⟩) ok.ti.2, up1 h2 st w1'', up2 h2 st w2'', ok.no⟩
  fin := by
    intro i ρ H s Q E R ok ck hx hb kk
    simp only [Bool.and_eq_true] at ck
    refine hideG fun G kG => ?_
    obtain ⟨⟨ck1, ck2⟩, ck3⟩ := ck
    refine ex1 ok.zip fun TO zz => aNd2 zz fun ht hz => ?_
    refine ex3 (ok.it1.raw R ck1) fun b1 a1 vs zz => aNd5 zz fun w1 r1 ne1 nt1 up1 => ?_
    refine kG ?_
    have hn := pairUp_none hlen hx
    refine zip_over hh n1 (ne1 z (zipO hz)) hz ok.ti.1 w1 (by rw [List.getElem?_eq_none_iff] at hn; have := r1.length; simp; exact o147 hlen this hn) fun h' keep => ?_
    have keep' : ∀ b o, b ∉ [z, i1] → s.heap.get? b = some o → h'.get? b = some o := fun b o nb eb => by
      simp only [List.mem_cons, List.not_mem_nil, or_false, not_or] at nb
      exact keep b o nb.1 nb.2 eb
    have st : Step ρ s.heap ρ h' := step_priv (qs := [z, i1]) (fun q hq => by
      simp only [List.mem_cons, List.not_mem_nil, or_false] at hq
      rcases hq with rfl | rfl
      · exact .inr (zipO hz)
      · exact .inr ok.it1.obj) keep'
    refine kk h' s.toks (R.same st (fun b o ow eb => keep b o (fun w => ok.no.1 (w ▸ ow)) (fun w => ok.no.2.1 (w ▸ ow)) eb) fun b o eb => keep b o (fun w => ?_) (fun w => ?_) (R.base b o eb)) st fun b o nb _ eb => keep' b o (fun w => nb ?_) eb
    · rw [w, hb z (by simp)] at eb; exact nomatch eb
    · rw [w, hb i1 (by simp)] at eb; exact nomatch eb
    · simp only [List.mem_cons, List.not_mem_nil, or_false] at w ⊢
      rcases w with w | w
      · exact .inl w
      · exact .inr (.inl w)
end
end Mine
-- part MFor
namespace Mine
open PySem
section
variable {cx : Cx} {N : Names} {A : Around} {Φ : Funs} {l : List Env} {d : Nat} {env : Env} {sc : Scope} {ns : List (Option Str)} {Γ : Env'} {H : Hp} {ρ ρ' : Rho} {s : Shared}
set_option tactic.hygienic true in
theorem listOf_eq {v : Val} {H : Hp} {xs : List Val} {l : Nat} (h : listOf v H = some (xs, l)) : v = .loc l ∧ H[l]? = some (.list xs) := by
  unfold listOf at h
  split at h
  · split at h
    · rename_i hl; cases h; exact ⟨rfl, hl⟩
    · cases h
  · cases h
theorem zip_mem : (("zip" : Str), Value.type "zip") ∈ bltTab := by
  unfold bltTab
  repeat (first | exact List.Mem.head _ | apply List.Mem.tail)
theorem enum_mem : (("enumerate" : Str), Value.type "enumerate") ∈ bltTab := by
  unfold bltTab
  repeat (first | exact List.Mem.head _ | apply List.Mem.tail)
noncomputable abbrev loopK (cx : Cx) (A : Around) (env : Env) (target : Expr) (stmts : List Stmt) (zv : Value) : (Flow → Shared → Prop) → (Value → Shared → Prop) → Shared → Prop := fun Q E s =>
  wpAny (model cx.prog cx.w) A (pyIter zv) (fun it s₂ => codeAny (model cx.prog cx.w) A (.forLoop target it stmts [] env) (fun r s' => match r with | .ok f => Q f s' | .error e => cameBackBy (model cx.prog cx.w) A env E e s') s₂) E s
theorem loopK_mono {target : Expr} {stmts : List Stmt} {zv : Value} : MonoK (loopK cx A env target stmts zv) := by
  intro Q E Q' E' s h k1 k2
  exact wpAny_mono h (fun it s₂ h2 => codeAny_mono h2 fun r s' hr => by
    cases r with
    | ok f => exact k1 _ _ hr
    | error e => exact cameBack_mono hr k2) k2
theorem zipOf_eq {v w : Val} {H : Hp} {xs ys : List Val} {l1 l2 : Option Nat} (h : zipOf v w H = some ((xs, l1), (ys, l2))) : ∃ k1 k2, v = .loc k1 ∧ w = .loc k2 ∧ l1 = some k1 ∧ l2 = some k2 ∧ H[k1]? = some (.list xs) ∧ H[k2]? = some (.list ys) := by
  unfold zipOf at h
  cases h1 : listOf v H with
  | none => rw [h1] at h; cases h
  | some p =>
    cases h2 : listOf w H with
    | none => rw [h1, h2] at h; cases h
    | some q =>
      rw [h1, h2] at h
      cases h
      obtain ⟨hr0, g1⟩ := listOf_eq (l := p.2) h1; refine Eq.symm hr0 ▸ ?_
      obtain ⟨hr1, g2⟩ := listOf_eq (l := q.2) h2; refine Eq.symm hr1 ▸ ?_
      exact ⟨_, _, rfl, rfl, rfl, rfl, g1, g2⟩
theorem zip_make {v w : Val} {va vb : Value} {xs ys : List Val} {l1 l2 : Option Nat} (R : Rel cx H ρ s) (r1 : VR cx ρ s.heap v va) (r2 : VR cx ρ s.heap w vb) (hz : zipOf v w H = some ((xs, l1), (ys, l2))) {Q : Value → Shared → Prop} {E : Value → Shared → Prop}
    (k : ∀ h3, IsZip h3 (s.heap.objs.size + 4) (s.heap.objs.size + 2) (s.heap.objs.size + 3) .none → IsPair h3 (s.heap.objs.size + 2) (.ref s.heap.objs.size) (.ref (s.heap.objs.size + 1)) → IsPair h3 (s.heap.objs.size + 3) .none .none → (∀ c o, s.heap.get? c = some o → h3.get? c = some o) →
      (∀ ρ', Full ρ s.heap ρ' h3 → ZIt cx xs s.heap.objs.size 0 ρ' h3 l1 ∧ ZIt cx ys (s.heap.objs.size + 1) 0 ρ' h3 l2) → Q (.ref (s.heap.objs.size + 4)) { s with heap := h3 }) : wpAny (model cx.prog cx.w) A (call (.type "zip") [va, vb]) Q E s := by
  refine hideG fun G kG => ?_
  refine ex2 (zipOf_eq hz) fun k1 k2 zz => aNd6 zz fun zr2 zr3 zr4 zr5 g1 g2 => ?_; subst zr2; subst zr3; subst zr4; subst zr5
  refine ex1 r1.loc_inv fun p1 zz => aNd2 zz fun e1 zr2 => ?_; subst zr2
  refine ex1 r2.loc_inv fun p2 zz => aNd2 zz fun e2 zr2 => ?_; subst zr2
  refine ex2 (R.listAt g1 e1) fun vs nv zz => aNd4 zz fun pp1 h1 u1 z1 => ?_
  refine ex2 (R.listAt g2 e2) fun ws nw zz => aNd4 zz fun pp2 h2 u2 z2 => ?_
  refine kG ?_
  refine call_zip_2 (xs := vs.toArray) (ys := ws.toArray) ⟨_, h1, rfl, nv, rfl⟩ ⟨_, h2, rfl, nw, rfl⟩ fun h3 hz3 hTI3 hTO3 hi1 hi2 hsz kp => ?_
  exact k h3 hz3 hTI3 hTO3 kp fun ρ' F => ⟨.list (F.grow.get e1) hi1, .list (F.grow.get e2) hi2⟩
theorem sim_eachZip (B : Base cx N) {i j : Nat} {a b : ME} {body : MSs} {y z f : Str} {p q : Expr} {stmts : List Stmt} {py pz pt fp cp pos : Pos} {kk : Nat} (hh : A.handled = none) (hfr : A.frames = some (env :: l)) (ha : Apart ns) (hy : isOwn sc ns i y = true) (hz : isOwn sc ns j z = true)
    (hg : isGlob sc f = true) (hf : f = ("zip" : Str)) (np : notStar p = true) (nq : notStar q = true)
    (hp : ∀ Γ : Env', Γ.length = ns.length → EOk cx A ((Amb.env cx env sc ns Γ).and (Amb.frames cx (env :: l))) Φ env Γ a p) (hq : ∀ Γ : Env', Γ.length = ns.length → EOk cx A ((Amb.env cx env sc ns Γ).and (Amb.frames cx (env :: l))) Φ env Γ b q)
    (hb : SimS cx A (env :: l) env sc ns (execs stmts env) (execSs cx.T Φ body)) :
    SimS cx A (env :: l) env sc ns (exec (.For (.Tuple [.Name y py, .Name z pz] kk pt) (.Call (.Name f fp) [p, q] [] cp) stmts [] pos) env) (execS cx.T Φ (.eachZip i j a b body)) := by
  refine hideG fun G kG => ?_
  refine ex2 B.ns fun mg mb zz => aNd6 zz fun ng nb' _ _ _ tab => ?_
  have q12 : mg ("zip" : Str) = none ∧ mb ("zip" : Str) = some (.type "zip") := tab _ zip_mem
  obtain ⟨q1, q2⟩ := q12
  refine kG ?_
  rw [← hf] at q1 q2
  intro Γ H ρ s R e0 fr
  refine SimSK.to ?_
  refine SimSAt.bindK (K := fun va Q E s => wpAny (model cx.prog cx.w) A (eval q env) (fun vb s' => wpAny (model cx.prog cx.w) A (call (.type "zip") [va, vb]) (fun zv s'' => loopK cx A env (.Tuple [.Name y py, .Name z pz] kk pt) stmts zv Q E s'') E s') E s) e0 ((hp Γ e0.len).val H ρ s R ⟨e0, fr⟩) ?_ ?_ ?_
  · intro v va H1 ρ1 s1 _ F1 R1 e1 vr1
    have fr1 : FramesOk cx (env :: l) ρ1 s1.heap := fr.full F1
    refine SimSAt.bindK (K' := fun Q E s => wpAny (model cx.prog cx.w) A (eval q env) (fun vb s' => wpAny (model cx.prog cx.w) A (call (.type "zip") [va, vb]) (fun zv s'' => loopK cx A env (.Tuple [.Name y py, .Name z pz] kk pt) stmts zv Q E s'') E s') E s)
      (K := fun vb Q E s => wpAny (model cx.prog cx.w) A (call (.type "zip") [va, vb]) (fun zv s'' => loopK cx A env (.Tuple [.Name y py, .Name z pz] kk pt) stmts zv Q E s'') E s) e1 ((hq Γ e1.len).val H1 ρ1 s1 R1 ⟨e1, fr1⟩) ?_ ?_ fun Q E h => h
    · intro w vb H2 ρ2 s2 _ F2 R2 e2 vr2
      have fr2 : FramesOk cx (env :: l) ρ2 s2.heap := fr1.full F2
      have vr1' : VR cx ρ2 s2.heap v va := vr1.step F2.step
      refine SimSK.look fun pr h1 => ?_
      obtain ⟨⟨xs, l1⟩, ys, l2⟩ := pr
      dsimp only
      by_cases hlen : xs.length = ys.length
      · rw [if_pos hlen]
        refine SimSK.ofPost fun Q E nb p => ?_
        refine zip_make R2 vr1' vr2 h1 fun h3 hz3 hTI3 hTO3 kp zit => ?_
        refine wpAny_pyIter_zip hz3 ?_
        have fresh : ∀ k, s2.heap.get? (s2.heap.objs.size + k) = none := fun k => fresh_le (Nat.le_add_right _ _)
        obtain ⟨F3, R3⟩ := R2.alloc (tk := s2.toks) (o := .hid) (p := (s2.heap.objs.size + 3, s2.heap.objs.size + 3)) kp ⟨fresh 3, fresh 3⟩ (.hid hTO3)
        have nof : ∀ k, k ≠ 3 → ¬ Owned (ρ2 ++ [(s2.heap.objs.size + 3, s2.heap.objs.size + 3)]) (s2.heap.objs.size + k) := fun k hk ⟨p, hp, h⟩ => by
          rcases List.mem_append.mp hp with hp | hp
          · exact R2.fresh_not (fresh k) ⟨p, hp, h⟩
          · rw [List.mem_singleton.mp hp] at h
            have : s2.heap.objs.size + k = s2.heap.objs.size + 3 := by rcases h with h | h <;> exact h
            exact hk (Nat.add_left_cancel this)
        obtain ⟨z1, z2⟩ := zit _ F3
        refine sim_loop (zipWalk hh xs ys hlen l1 l2 H2.length (s2.heap.objs.size + 4) (s2.heap.objs.size + 2) s2.heap.objs.size (s2.heap.objs.size + 1) (Nat.ne_of_lt (by exact o148)) (Nat.ne_of_lt (by exact o149)) (Nat.ne_of_lt (Nat.lt_succ_self _)) [.Name y py, .Name z pz] kk pt) hfr (bind_pair hh ha hy hz) hb e2 fr2 (fun b o e => ⟨o, R2.base b o e⟩) ?_ F3.toS R3 (e2.full F3) ?_ nb p
        · intro q hq
          have hq' : q = s2.heap.objs.size + 4 ∨ q = s2.heap.objs.size ∨ q = s2.heap.objs.size + 1 := by
            have hq2 : q ∈ [s2.heap.objs.size + 4, s2.heap.objs.size, s2.heap.objs.size + 1] := hq
            simpa using hq2
          rcases hq' with rfl | rfl | rfl
          · exact fresh 4
          · exact fresh 0
          · exact fresh 1
        · exact ⟨⟨_, by rw [R2.len, List.getElem?_append_right (Nat.le_refl _)]; simp, hz3⟩, ⟨hTI3, nof 2 (by decide)⟩, z1, z2, nof 4 (by decide), nof 0 (by decide), nof 1 (by decide)⟩
      · rw [if_neg hlen]; trivial
    · intro vb Q E Q' E' s h k1 k2
      exact wpAny_mono h (fun zv s'' h' => loopK_mono _ _ _ _ _ h' k1 k2) k2
  · intro va Q E Q' E' s h k1 k2
    exact wpAny_mono h (fun vb s' h' => wpAny_mono h' (fun zv s'' h'' => loopK_mono _ _ _ _ _ h'' k1 k2) k2) k2
  · intro Q E h
    refine wpAny_For ?_ (fun xv => rfl)
    refine wpAny_Call_ofName (wp_glob R e0.st hg ng nb' (v := .type "zip") (.inr ⟨q1, q2⟩) ?_)
    have pl : plainArgs env [p, q] := ⟨starEach_plain np, starEach_plain nq, trivial⟩
    rw [plainArgs_trees cp pl]
    refine PyProof.Rows.callWith_type (any_false _) (Calls.evalArgs_plain (Calls.spliced_cons (wpAny_mono h (fun v s' h' => ?_) fun _ _ q => q)))
    exact Calls.spliced_cons (wpAny_mono h' (fun w s'' h'' => Calls.spliced_nil h'') fun _ _ q => q)
theorem enumO {h : Heap} {e it : Addr} {i : Int} {f : Value} (x : IsEnum h e it i f) : ∃ o, h.get? e = some o ∧ IterO o := ⟨_, x, ⟨_, rfl⟩, _, rfl, by decide⟩
theorem countUp_get : ∀ {xs : List Val} {n i : Nat} {m : Val}, (countUp n xs)[i]? = some m → ∃ a, xs[i]? = some a ∧ m = .tup [.int ((n + i : Nat) : Int), a]
  | [], _, _, _, h => by simp [countUp] at h
  | a :: xs, n, 0, m, h => by simp [countUp] at h; exact ⟨a, rfl, by rw [← h]; rfl⟩
  | a :: xs, n, i + 1, m, h => by
    have h' : (countUp (n + 1) xs)[i]? = some m := by simpa [countUp] using h
    refine ex1 (countUp_get h') fun a' zz => aNd2 zz fun h1 h2 => ?_
    exact ⟨a', by simpa using h1, by rw [h2, show n + 1 + i = n + (i + 1) by exact o150]⟩
theorem countUp_none : ∀ {xs : List Val} {n i : Nat}, (countUp n xs)[i]? = none → xs[i]? = none
  | [], _, _, _ => by simp
  | a :: xs, n, 0, h => by simp [countUp] at h
  | a :: xs, n, i + 1, h => by
    have h' : (countUp (n + 1) xs)[i]? = none := by simpa [countUp] using h
    simpa using countUp_none h'
structure EnOk (cx : Cx) (xs : List Val) (l1 : Nat) (e it : Addr) (i : Nat) (ρ : Rho) (h : Heap) : Prop where
  en : ∃ old, IsEnum h e it i old
  it1 : ∃ p, ρ[l1]? = some p ∧ h.IsListIter it p.1 i
  no : ¬ Owned ρ e ∧ ¬ Owned ρ it
noncomputable def enumWalk (hh : A.handled = none) (xs : List Val) (l1 : Nat) (e it : Addr) (n1 : e ≠ it) (elts : List Expr) (k : Nat) (pt : Pos) : Walk cx A (.ref e) (.Tuple elts k pt) (countUp 0 xs) (chk (some l1) xs) where
  Ok i ρ h := EnOk cx xs l1 e it i ρ h
  priv := [e, it]
  obj := by
    intro i ρ h ok q hq
    refine hideG fun G kG => ?_
    obtain ⟨old, he⟩ := ok.en
    refine ex1 ok.it1 fun p1 zz => aNd2 zz fun _ hi1 => ?_
    refine kG ?_
    simp only [List.mem_cons, List.not_mem_nil, or_false] at hq
    rcases hq with rfl | rfl
    · exact ⟨enumO he, ok.no.1⟩
    · exact ⟨listIterO hi1, ok.no.2⟩
  step := by
    intro i ρ h ρ' h' ok st kk
    refine hideG fun G kG => ?_
    obtain ⟨old, he⟩ := ok.en
    refine ex1 ok.it1 fun p1 zz => aNd2 zz fun e1 hi1 => ?_
    refine kG ?_
    have kz := kk e (by simp)
    have k1 := kk it (by simp)
    exact ⟨⟨old, kz.1 _ he⟩, ⟨p1, st.get e1, hi1.at k1.1⟩, kz.2, k1.2⟩
  item := by
    intro i ρ H s m Q E E' QQ R ok ck hx hb qq kk
    obtain ⟨old, he⟩ := ok.en
    refine ex1 ok.it1 fun p1 zz => aNd2 zz fun e1 hi1 => ?_
    have H1 := chk_list ck
    refine ex2 (R.listAt H1 e1) fun vs nv zz => aNd4 zz fun pp1 g1 r1 z1 => ?_
    refine ex1 (countUp_get hx) fun a zz => aNd2 zz fun ha zr2 => ?_; subst zr2
    refine ex1 (r1.get ha) fun va zz => aNd2 zz fun eva ra => ?_
    refine wpAny_pyNext_enum_item (items := vs.toArray) (x := va) he hi1 ⟨_, g1, rfl, nv, rfl⟩ (by simpa using eva) n1 fun h1 he1 hi1' hT1 hsz1 hk1 => qq _ _ ?_
    refine wpAny_letOwnedTupleGo_enum he1 fun h2 he2 hs2 => ?_
    have zT : s.heap.objs.size ≠ e := fun w => by have := Heap.lt_size he; rw [← w] at this; exact Nat.lt_irrefl _ this
    have keep : ∀ b o, b ∉ [e, it] → s.heap.get? b = some o → h2.get? b = some o := fun b o nb eb => by
      simp only [List.mem_cons, List.not_mem_nil, or_false, not_or] at nb
      exact hs2.extBut _ _ nb.1 (hk1 b o nb.1 nb.2 eb)
    have hT2 : h2.get? s.heap.objs.size = some (tupO [.int i s.toks, va] 0) := hs2.extBut _ _ zT hT1
    have hi1'' := hi1'.extBut hs2.extBut n1.symm
    have st : Step ρ s.heap ρ h2 := step_priv (qs := [e, it]) (fun q hq => by
      simp only [List.mem_cons, List.not_mem_nil, or_false] at hq
      rcases hq with rfl | rfl
      · exact .inr (enumO he)
      · exact .inr (listIterO hi1)) keep
    have R2 : Rel cx H ρ { s with heap := h2, toks := s.toks + 1 } := by
      refine R.same st (fun b o ow eb => keep b o (by simp only [List.mem_cons, List.not_mem_nil, or_false, not_or]; exact ⟨fun w => ok.no.1 (w ▸ ow), fun w => ok.no.2 (w ▸ ow)⟩) eb) fun b o eb => keep b o ?_ (R.base b o eb)
      simp only [List.mem_cons, List.not_mem_nil, or_false, not_or]
      refine ⟨fun w => ?_, fun w => ?_⟩
      · rw [w, hb e (by simp)] at eb; exact nomatch eb
      · rw [w, hb it (by simp)] at eb; exact nomatch eb
    have lv : Live s.heap h2 := fun b o eb => by
      by_cases q : b ∈ [e, it]
      · simp only [List.mem_cons, List.not_mem_nil, or_false] at q
        rcases q with rfl | rfl
        · exact ⟨_, he2⟩
        · refine ex1 hi1'' fun o zz => aNd2 zz fun e _ => ?_; exact ⟨o, e⟩
      · exact ⟨o, keep b o q eb⟩
    refine kk _ h2 (s.toks + 1) R2 st (fun b o nb no eb => keep b o nb eb) lv ?_ ?_
    · refine .tup hT2 (R.fresh_not (fresh_none _)) (show 2 ≤ sizeLine by skip; decide) (.cons ?_ (.cons (ra.step st) .nil))
      rw [Nat.zero_add]; exact .int _ _
    · refine ⟨⟨va, ?_⟩, ⟨p1, e1, hi1''⟩, ok.no⟩
      have e' : (((i + 1 : Nat)) : Int) = (i : Int) + 1 := by exact o29
      skip; exact he2
  fin := by
    intro i ρ H s Q E R ok ck hx hb kk
    refine hideG fun G kG => ?_
    obtain ⟨old, he⟩ := ok.en
    refine ex1 ok.it1 fun p1 zz => aNd2 zz fun e1 hi1 => ?_
    have H1 := chk_list ck
    refine ex2 (R.listAt H1 e1) fun vs nv zz => aNd4 zz fun pp1 g1 r1 z1 => ?_
    have hn := countUp_none hx
    refine ex1 (listIterO hi1) fun oi zz => aNd2 zz fun ei ioi => ?_
    refine kG ?_
    refine wpAny_pyNext_enum_end hh he hi1 ⟨_, g1, rfl, nv, rfl⟩ (by rw [List.getElem?_eq_none_iff] at hn; have := r1.length; simp; exact o31 this hn) fun h' keep => ?_
    exact kk h' s.toks (R.ext ei keep ioi.not.1 ioi.not.2 ok.no.2 (hb it (by simp))) (Step.ext ei keep ioi.not.1 ioi.not.2) fun b o nb _ eb => keep b o (fun w => nb (by rw [w]; simp)) eb
theorem sim_eachEnum (B : Base cx N) {i j : Nat} {a : ME} {body : MSs} {y z f : Str} {p : Expr} {stmts : List Stmt} {py pz pt fp cp pos : Pos} {kk : Nat} (hh : A.handled = none) (hfr : A.frames = some (env :: l)) (ha : Apart ns) (hy : isOwn sc ns i y = true) (hz : isOwn sc ns j z = true)
    (hg : isGlob sc f = true) (hf : f = ("enumerate" : Str)) (np : notStar p = true)
    (hp : ∀ Γ : Env', Γ.length = ns.length → EOk cx A ((Amb.env cx env sc ns Γ).and (Amb.frames cx (env :: l))) Φ env Γ a p)
    (hb : SimS cx A (env :: l) env sc ns (execs stmts env) (execSs cx.T Φ body)) :
    SimS cx A (env :: l) env sc ns (exec (.For (.Tuple [.Name y py, .Name z pz] kk pt) (.Call (.Name f fp) [p] [] cp) stmts [] pos) env) (execS cx.T Φ (.eachEnum i j a body)) := by
  refine hideG fun G kG => ?_
  refine ex2 B.ns fun mg mb zz => aNd6 zz fun ng nb' _ _ _ tab => ?_
  have q12 : mg ("enumerate" : Str) = none ∧ mb ("enumerate" : Str) = some (.type "enumerate") := tab _ enum_mem
  obtain ⟨q1, q2⟩ := q12
  refine kG ?_
  rw [← hf] at q1 q2
  intro Γ H ρ s R e0 fr
  refine SimSK.to ?_
  refine SimSAt.bindK (K := fun va Q E s => wpAny (model cx.prog cx.w) A (call (.type "enumerate") [va]) (fun zv s'' => loopK cx A env (.Tuple [.Name y py, .Name z pz] kk pt) stmts zv Q E s'') E s) e0 ((hp Γ e0.len).val H ρ s R ⟨e0, fr⟩) ?_ ?_ ?_
  · intro v va H2 ρ2 s2 _ F1 R2 e2 vr1
    have fr2 : FramesOk cx (env :: l) ρ2 s2.heap := fr.full F1
    refine SimSK.look fun pr1 h1 => ?_
    obtain ⟨xs, l1⟩ := pr1
    obtain ⟨rfl, H1'⟩ := listOf_eq h1
    refine SimSK.ofPost fun Q E nb p => ?_
    cases vr1 with
    | @loc _ p1 e1' =>
      refine hideG fun G kG => ?_
      refine ex2 (R2.listAt H1' e1') fun vs nv zz => aNd4 zz fun pp1 g1 r1 z1 => ?_
      refine kG ?_
      refine call_enumerate_1 (items := vs.toArray) g1 fun h3 he3 hi1 hsz kp => ?_
      refine wpAny_pyIter_enum he3 ?_
      have fresh : ∀ k, s2.heap.get? (s2.heap.objs.size + k) = none := fun k => fresh_le (Nat.le_add_right _ _)
      have F3 : Full ρ2 s2.heap ρ2 h3 := Full.more kp
      have R3 : Rel cx H2 ρ2 { s2 with heap := h3 } := R2.more (tk := s2.toks) kp
      refine sim_loop (enumWalk hh xs l1 (s2.heap.objs.size + 1) s2.heap.objs.size (Nat.succ_ne_self _) [.Name y py, .Name z pz] kk pt) hfr (bind_pair hh ha hy hz) hb e2 fr2 (fun b o e => ⟨o, R2.base b o e⟩) ?_ F3.toS R3 (e2.full F3) ?_ nb p
      · intro q hq
        have hq' : q = s2.heap.objs.size + 1 ∨ q = s2.heap.objs.size := by
          have hq2 : q ∈ [s2.heap.objs.size + 1, s2.heap.objs.size] := hq
          simpa using hq2
        rcases hq' with rfl | rfl
        · exact fresh 1
        · exact fresh 0
      · exact ⟨⟨_, he3⟩, ⟨p1, e1', hi1⟩, R2.fresh_not (fresh 1), R2.fresh_not (fresh 0)⟩
  · intro va Q E Q' E' s h k1 k2
    exact wpAny_mono h (fun zv s'' h'' => loopK_mono _ _ _ _ _ h'' k1 k2) k2
  · intro Q E h
    refine wpAny_For ?_ (fun xv => rfl)
    refine wpAny_Call_ofName (wp_glob R e0.st hg ng nb' (v := .type "enumerate") (.inr ⟨q1, q2⟩) ?_)
    have pl : plainArgs env [p] := ⟨starEach_plain np, trivial⟩
    rw [plainArgs_trees cp pl]
    refine PyProof.Rows.callWith_type (any_false _) (Calls.evalArgs_plain (Calls.spliced_cons (wpAny_mono h (fun v s' h' => ?_) fun _ _ q => q)))
    exact Calls.spliced_nil h'
end
end Mine
-- part MAssign
namespace Mine
open PySem
section
variable {cx : Cx} {N : Names} {A : Around} {Φ : Funs} {l : List Env} {d : Nat} {env : Env} {sc csc : Scope} {ns : List (Option Str)} {Γ : Env'} {H : Hp} {ρ ρ' : Rho} {s : Shared}
theorem swaps_not {m : ME} {x : Expr} {t : Option Expr} {ln : Nat} (h : ck N sc ns m x = true) (hm : ∀ a b c, m ≠ .comp a b c) : swapsWith x t ln env = pure false := by
  have z := ck_head h
  have hc : isComp m = false := by cases m <;> first | rfl | exact absurd rfl (hm _ _ _)
  rw [hc] at z
  cases x <;> first | rfl | cases z
theorem swaps_name {x : Expr} {y : Str} {py : Pos} {ln : Nat} : swapsWith x (some (.Name y py)) ln env = pure true ∨ swapsWith x (some (.Name y py)) ln env = pure false := by
  have : ∃ b, swapsWith x (some (.Name y py)) ln env = pure b := by cases x <;> exact ⟨_, rfl⟩
  obtain ⟨b, e⟩ := this
  cases b
  · exact .inr e
  · exact .inl e
theorem sim_assign_plain {i : Nat} {m : ME} {y : Str} {x : Expr} {py pos : Pos} (ha : Apart ns) (ho : isOwn sc ns i y = true) (hs : swapsWith x (some (.Name y py)) pos.line env = pure false)
    (hx : ∀ Γ : Env', Γ.length = ns.length → EOk cx A ((Amb.env cx env sc ns Γ).and (Amb.frames cx l)) Φ env Γ m x) :
    SimS cx A l env sc ns (exec (.Assign [.Name y py] x pos) env) (execS cx.T Φ (.assign i m)) := by
  intro Γ H ρ s R e0 fr
  refine SimSK.to (SimSAt.bindK (K := fun v Q E s => wpAny (model cx.prog cx.w) A (storeName env y v) (fun _ => Q .next) E s) e0 ((hx Γ e0.len).val H ρ s R ⟨e0, fr⟩) (fun b v H1 ρ1 s1 _ F1 R1 e1 vr => sk_assign ha R1 e1 ho vr) (fun _ => monoK_store) fun Q E h => wpAny_Assign_Name h hs)
theorem sim_assign_comp (hh : A.handled = none) {i : Nat} {elt it : ME} {cond : MEo} {e x : Expr} {t y : Str} {ifs : List Expr} {tp py cp pos : Pos} (ha : Apart ns) (ho : isOwn sc ns i y = true) (hs : swapsWith (.ListComp e [⟨.Name t tp, x, ifs, 0⟩] csc cp) (some (.Name y py)) pos.line env = pure true) (hi : notSet x = true) (hc : compOk sc csc t = true)
    (pt : CParts cx A Φ l csc (inner csc ns ++ [some t]) cond elt ifs e) (hx : ∀ Γ : Env', Γ.length = ns.length → EOk cx A ((Amb.env cx env sc ns Γ).and (Amb.frames cx l)) Φ env Γ it x) :
    SimS cx A l env sc ns (exec (.Assign [.Name y py] (.ListComp e [⟨.Name t tp, x, ifs, 0⟩] csc cp) pos) env) (execS cx.T Φ (.assign i (.comp elt it cond))) := by
  refine aNd3 (compOk_parts hc) fun c1 c2 c3 => ?_
  intro Γ H ρ s R e0 fr
  rw [ex_assign, comp_eval]
  have assoc : ∀ (m : M Val) (f : Val → M Val) (g : Val → Hp → ResS) (H : Hp), bndS (m.bnd f) Γ g H = bndS m Γ (fun v => bndS (f v) Γ g) H := by
    intro m f g H
    unfold bndS M.bnd
    cases m H <;> rfl
  rw [assoc]
  refine SimSK.to (SimSAt.bindK (K := fun xv Q E s => wpAny (model cx.prog cx.w) A (pyIter xv) (fun it s₂ => wpAny (model cx.prog cx.w) A (newList []) (fun acc s₃ => wpAny (model cx.prog cx.w) A (newFunctionEnv csc env.globals (cloOf env csc.names []) [] env.qual none .none (some env)) (fun cenv s₄ =>
      codeAny (model cx.prog cx.w) A (.compStart (.ListComp e [⟨.Name t tp, x, ifs, 0⟩] csc cp) 0 it acc { cenv with scope := relabel csc env }) (compPost (model cx.prog cx.w) A E (some (assign (.Name y py) env)) (fun _ s' => Q .next s') acc cenv.locals) s₄) E s₃) E s₂) E s) e0 ((hx Γ e0.len).val H ρ s R ⟨e0, fr⟩) ?_ ?_ ?_)
  · intro v xv H1 ρ1 s1 _ F1 R1 e1 vr
    rcases compRest_cases (T := cx.T) (Φ := Φ) (cond := cond) (elt := elt) (Γ := Γ) (v := v) (H := H1) with w | ⟨xs, src, ys, H₂, w1, w2, w3, w4⟩
    · unfold bndS; rw [w]; trivial
    · unfold bndS; rw [w4]
      refine comp_block hh hc ha e1.len pt R1 e1 ((Amb.frames cx l).st _ _ _ _ fr F1) vr w1 w2 w3 fun D C ρ' s' F' R' v' m' n' hC => ?_
      obtain ⟨m, hm⟩ := m'
      have e' := e1.full F'
      have lvB : Live cx.h₀ s1.heap := fun b o e => ⟨o, R1.base b o e⟩
      refine wpAny_assign_Name (store_var e'.len ha R' e' ho v' fun h2 tk2 F2 R2 e2 hq => ?_)
      refine hideG fun G kG => ?_
      refine ex2 hq fun q oq zz => aNd3 zz fun hqd hqs gq => ?_
      have live : ∀ {b : Addr}, (∃ o, s1.heap.get? b = some o) → b ≠ C := fun ⟨o, eo⟩ w => by rw [w, hC] at eo; exact nomatch eo
      have locL : env.locals ≠ C := live (by refine ex1 e1.st.loc fun m zz => ex3 zz fun o es ep zz => aNd2 zz fun e _ => ?_; exact ⟨o, e⟩)
      have celL : ∀ z c, env.cells.lookup z = some c → c ≠ C := fun z c hc => live (by obtain ⟨⟨v, o, e, _⟩, _⟩ := e1.st.cells z c hc; exact ⟨o, e⟩)
      have qC : C ≠ q := by
        rcases hqd with ⟨_, rfl⟩ | ⟨_, w⟩
        · exact locL.symm
        · exact (celL y q w).symm
      have hm2 : h2.Ns C m := Heap_Ns_keep hm fun o eo => ⟨o, by rw [hqs.2 C qC]; exact eo, rfl⟩
      refine ex1 (nsO_not hm2) fun oC zz => aNd3 zz fun gC nf nx => ?_
      refine kG ?_
      refine ⟨m, hm2, fun h3 hs3 => ?_⟩
      have st : Step ρ' h2 ρ' h3 := Step.ext gC hs3.extBut nf nx
      have FF : FullS env ρ1 s1.heap ρ' h2 := F'.toS.trans F2
      refine ⟨rfl, ρ', ?_, R2.ext (tk := tk2) gC hs3.extBut nf nx n' (lvB.none hC), e2.but hs3.extBut locL.symm (fun z w => celL z C w rfl) st⟩
      refine ⟨FF.grow, fun b o eb n n1 n2 => ?_, fun b o eb => ?_⟩
      · refine ex1 (FF.keep b o eb n n1 n2) fun o' zz => aNd2 zz fun e' u => ?_
        exact ⟨o', hs3.extBut b o' (live ⟨o, eb⟩) e', u⟩
      · obtain ⟨o', e'⟩ := FF.live b o eb
        exact ⟨o', hs3.extBut b o' (live ⟨o, eb⟩) e'⟩
  · intro xv Q E Q' E' s h k1 k2
    exact wpAny_mono h (fun it s₂ h2 => wpAny_mono h2 (fun acc s₃ h3 => wpAny_mono h3 (fun cenv s₄ h4 => codeAny_mono h4 fun r s' hr => compPost_mono hr (fun _ s => k1 _ s) k2) k2) k2) k2
  · intro Q E h
    rw [exec_Assign_Name_used _ _ _ _ hs]
    refine wpAny_bind (wpAny_standAt (wpAny_bind ?_))
    show wpAny _ A (do let _ ← comprehension (.ListComp e [⟨.Name t tp, x, ifs, 0⟩] csc cp) csc env _ (newList []) false (eval x env) (some (assign (.Name y py) env))) _ _ s
    refine wpAny_bind (wpAny_mono (wpAny_comprehension_free (use := some (assign (.Name y py) env)) (Q := fun _ s' => Q .next s') (g := ⟨.Name t tp, x, ifs, 0⟩) (gs := []) rfl (fun xv => foldedSet_of hi env xv)
      (closureFor_eq fun p' hp' hf => e0.st.hasCell p'.1 (by rcases (c3 p' hp').2 hf with w | w; exact .inl w; exact .inr w)) c1 (fun p' hp' hl => by rw [(c3 p' hp').1, hl]) h) (fun _ s' hq => wpAny_pure (wpAny_pure hq)) fun _ _ e => e)
theorem sim_assign (G : Ground cx N A Φ l d) {i : Nat} {m : ME} {y : Str} {x : Expr} {py pos : Pos} (ha : Apart ns) (ho : isOwn sc ns i y = true) (hm : ck N sc ns m x = true) :
    SimS cx A l env sc ns (exec (.Assign [.Name y py] x pos) env) (execS cx.T Φ (.assign i m)) := by
  rcases swaps_name (env := env) (x := x) (y := y) (py := py) (ln := pos.line) with hs | hs
  · by_cases hc : ∃ a b c, m = .comp a b c
    · refine ex3 hc fun elt it cond zr3 => ?_; subst zr3
      refine ex7 (inv_comp hm) fun el t px i' ifs csc cp zz => aNd6 zz fun zr7 h1 h2 h3 h4 h5 => ?_; subst zr7
      exact sim_assign_comp G.room.hh ha ho hs h2 h3 ⟨fun cenv Γ' hΓ' => econd G cond ifs cenv csc _ Γ' h5 (inner_inj ha (compOk_parts h3).2.1) hΓ', fun cenv Γ' hΓ' => (eok G elt el cenv csc _ Γ' h4 (inner_inj ha (compOk_parts h3).2.1) hΓ').val⟩
        fun Γ hΓ => eok G it i' env sc ns Γ h1 ha hΓ
    · have := swaps_not (env := env) (t := some (.Name y py)) (ln := pos.line) hm fun a b c w => hc ⟨a, b, c, w⟩
      exact sim_assign_plain ha ho this fun Γ hΓ => eok G m x env sc ns Γ hm ha hΓ
  · exact sim_assign_plain ha ho hs fun Γ hΓ => eok G m x env sc ns Γ hm ha hΓ
end
end Mine
-- part MStore
namespace Mine
open PySem
section
variable {cx : Cx} {N : Names} {A : Around} {Φ : Funs} {l : List Env} {d : Nat} {env : Env} {sc : Scope} {ns : List (Option Str)} {Γ : Env'} {H : Hp} {ρ : Rho} {s : Shared}
theorem setattr_ok {v m : Val} {n : Nat} {u : Unit} {H' : Hp} (h : setattrV v n m H = .ok u H') : ∃ i c fs, v = .loc i ∧ H[i]? = some (.inst c fs) ∧ H' = H.set i (.inst c (fput fs n m)) := by
  unfold setattrV at h
  split at h
  · split at h
    · cases h; exact ⟨_, _, _, rfl, by assumption, rfl⟩
    · cases h
  · cases h
theorem setattr_noexc {v m : Val} {n c : Nat} {H' : Hp} (h : setattrV v n m H = .exc c H') : False := by
  unfold setattrV at h
  split at h
  · split at h <;> cases h
  · cases h
theorem swaps_attr {x p : Expr} {y : Str} {q : Pos} {ln : Nat} : swapsWith x (some (.Attribute p y q)) ln env = pure false := by cases x <;> rfl
theorem sim_setattr (G : Ground cx N A Φ l d) {o e : ME} {n : Nat} {p x : Expr} {y : Str} {q pos : Pos} (ha : Apart ns) (hx : ck N sc ns e x = true) (hp : ck N sc ns o p = true) (hn : hasNo N.attrs y n = true) :
    SimS cx A l env sc ns (exec (.Assign [.Attribute p y q] x pos) env) (execS cx.T Φ (.setattr o n e)) := by
  intro Γ H ρ s R e0 fr
  refine SimSK.to (SimSAt.bindK (K := fun v Q E s => wpAny (model cx.prog cx.w) A (eval p env) (fun ov s₂ => wpAny (model cx.prog cx.w) A (setAttr ov y v) (fun _ => Q .next) E s₂) E s) e0 ((eok G e x env sc ns Γ hx ha e0.len).val H ρ s R ⟨e0, fr⟩) ?_ ?_ fun Q E h => plainObj_wpAny_Assign_Attribute h swaps_attr)
  · intro b v H1 ρ1 s1 _ F1 R1 e1 vr
    refine SimSAt.bindK (K := fun ov Q E s => wpAny (model cx.prog cx.w) A (setAttr ov y v) (fun _ => Q .next) E s) e1 ((eok G o p env sc ns Γ hp ha e1.len).val H1 ρ1 s1 R1 ⟨e1, fr.full F1⟩) ?_ ?_ (fun Q E h => h)
    · intro b2 ov H2 ρ2 s2 _ F2 R2 e2 vo
      have vo' : VR cx ρ2 s2.heap b2 ov := vo
      unfold bndS
      cases hr : setattrV b2 n b H2 with
      | bad => trivial
      | exc c H3 => exact (setattr_noexc hr).elim
      | ok u H3 =>
        refine ex3 (setattr_ok hr) fun i c fs zz => aNd3 zz fun zr3 hi zr5 => ?_; subst zr3; subst zr5
        refine ex1 vo'.loc_inv fun p1 zz => aNd2 zz fun hp1 hr0 => ?_; refine Eq.symm hr0 ▸ ?_
        exact wp_setattr G.base.cls R2 hi hp1 (G.base.cls.attr y n (hasNo_eq hn)) (VR.step F2.step vr) fun s' F R' => ⟨rfl, ρ2, F.toS, R', e2.full F⟩
    · exact fun _ Q E Q' E' s h k1 k2 => wpAny_mono h (fun _ _ => k1 _ _) k2
  · exact fun _ Q E Q' E' s h k1 k2 => wpAny_mono h (fun _ _ h' => wpAny_mono h' (fun _ _ => k1 _ _) k2) k2
end
end Mine
-- part MItem
namespace Mine
open PySem
section
variable {cx : Cx} {N : Names} {A : Around} {Φ : Funs} {l : List Env} {d : Nat} {env : Env} {sc : Scope} {ns : List (Option Str)} {Γ : Env'} {H : Hp} {ρ : Rho} {s : Shared}
set_option maxRecDepth 100000 in
theorem wp_setItem {a : Addr} {vs : List Value} {n : Nat} {k : Int} {t : Tok} {v : Value} {Q : Unit → Shared → Prop} {E : Value → Shared → Prop} (g : s.heap.get? a = some (listO vs n)) (h0 : 0 ≤ k) (hk : k < vs.length) (hf : k < 2 ^ 63)
    (hQ : Q () { s with heap := s.heap.update a (Obj.mapSeq (·.setIfInBounds k.toNat v)) }) : wpAny (model cx.prog cx.w) A (setItem (.ref a) (.int k t) v) Q E s := by
  have hl : s.heap.IsList a vs.toArray := ⟨_, g, rfl, n, rfl⟩
  unfold setItem
  try with_reducible refine wpAny_holding ?_
  first | refine wpAny_bind (wpAny_pure ?_) | skip
  refine wpAny_bind (wpAny_sequenceKey hl.typeIs (by decide) ?_)
  refine wpAny_bind (wpAny_callSpecial?_slot (name := Str.ofString "__setitem__") hl.typeIs slot_list_setitem (wpAny_call_entry slot_list_setitem hl.typeIs entry_list_setitem ?_ (args_list_setitem _ _ _)))
  show wpAny _ _ (Builtin.List.listSubscript? (.int k t) >>= _) _ _ s
  refine wpAny_bind (wpAny_listSubscript_int (fitsIndex_of h0 hf) ?_)
  clear hf
  obtain ⟨j, rfl⟩ := Int.eq_ofNat_of_zero_le h0
  have hj : j < vs.toArray.size := by simp only [List.size_toArray]; exact o151 hk
  have hx' : vs.toArray[j]? = some vs.toArray[j] := Array.getElem?_eq_getElem hj
  refine wpAny_bind (wpAny_bind (wpAny_seqItemAt g rfl (wpAny_pure ?_)))
  rw [hx']
  refine wpAny_bind (wpAny_setSeqItemAt g rfl ?_)
  first
    | exact wpAny_bind (wpAny_pure (wpAny_pure ⟨.none, rfl, wpAny_pure hQ⟩))
    | exact wpAny_pure ⟨.none, rfl, wpAny_pure hQ⟩
theorem VRs.setArr {xs : List Val} {vs : List Value} {m : Val} {v : Value} {h : Heap} (r : VRs cx ρ h xs vs) (k : Nat) (a : VR cx ρ h m v) : VRs cx ρ h (xs.set k m) (vs.toArray.setIfInBounds k v).toList := by
  have : (vs.toArray.setIfInBounds k v).toList = vs.set k v := by simp
  rw [this]; exact r.set k a
set_option tactic.hygienic true in
theorem setitem_ok {o i m : Val} {u : Unit} {H' : Hp} (h : setitemV o i m H = .ok u H') : ∃ l, o = .loc l ∧ ((∃ xs k, H[l]? = some (.list xs) ∧ i = .int k ∧ 0 ≤ k ∧ k < xs.length ∧ H' = H.set l (.list (xs.set k.toNat m))) ∨
    ∃ es k, H[l]? = some (.dict es) ∧ keyOf i = some k ∧ es.length < lid ∧ H' = H.set l (.dict (dput es k m))) := by
  unfold setitemV at h
  split at h
  · rename_i l
    split at h
    · rename_i xs hl
      split at h
      · rename_i k
        by_cases q : 0 ≤ k ∧ k < xs.length
        · rw [if_pos q] at h; cases h; exact ⟨l, rfl, .inl ⟨xs, k, hl, rfl, q.1, q.2, rfl⟩⟩
        · rw [if_neg q] at h; cases h
      · cases h
    · rename_i es hl
      split at h
      · rename_i k hk
        by_cases q : es.length < lid
        · rw [if_pos q] at h; cases h; exact ⟨l, rfl, .inr ⟨es, k, hl, hk, q, rfl⟩⟩
        · rw [if_neg q] at h; cases h
      · cases h
    · cases h
  · cases h
theorem setitem_noexc {o i m : Val} {c : Nat} {H' : Hp} (h : setitemV o i m H = .exc c H') : False := by
  unfold setitemV at h
  split at h
  · split at h
    · split at h
      · split at h <;> cases h
      · cases h
    · split at h
      · split at h <;> cases h
      · cases h
    · cases h
  · cases h
theorem wp_setDict (hu : A.units + 100 < cLine) (R : Rel cx H ρ s) {l : Nat} {p : Addr × Addr} {es : List (Key × Val)} {i m : Val} {k : Key} {iv v : Value} {Q : Unit → Shared → Prop} {E : Value → Shared → Prop} (hp : ρ[l]? = some p) (hl : H[l]? = some (.dict es)) (hk : keyOf i = some k) (q : es.length < lid)
    (xi : VR cx ρ s.heap i iv) (xm : VR cx ρ s.heap m v) (hQ : ∀ h' tk, Full ρ s.heap ρ h' → Rel cx (H.set l (.dict (dput es k m))) ρ { s with heap := h', toks := tk } → Q () { s with heap := h', toks := tk }) : wpAny (model cx.prog cx.w) A (setItem (.ref p.1) iv v) Q E s := by
  refine hideG fun G kG => ?_
  refine ex1 (R.dictAt hl hp) fun xs zz => aNd4 zz fun hpp D rr z => ?_
  refine ex1 (key_is xi hk) fun bb zz => aNd3 zz fun zr1 hb no => ?_; subst zr1
  refine kG ?_
  refine wpAny_setItem_heap (knd := cellKind cx) (tupleKind_room_in1 (by exact o9 hu)) hb D (fun h' hm hs => ?_) (by rw [rr.length]; exact z)
  refine hideG fun G kG => ?_
  refine ex3 D fun _ _ _ zz => aNd6 zz fun _ _ _ _ ks nd => ?_
  rw [sizeLine_lid] at q
  obtain ⟨F, R'⟩ := dict_set (tk := s.toks + (cellKind cx).draws [k.1, k.2]) R hp hpp hm hs (stored_keys ks hb) (rr.put nd xm no) (Nat.le_trans (dput_length es k m) q)
  refine kG ?_
  exact hQ h' _ F R'
theorem swaps_item {x p i : Expr} {q : Pos} {ln : Nat} : swapsWith x (some (.Subscript p i q)) ln env = pure false := by cases x <;> rfl
theorem sim_setitem (G : Ground cx N A Φ l d) {o i e : ME} {p j x : Expr} {q pos : Pos} (ha : Apart ns) (hx : ck N sc ns e x = true) (hp : ck N sc ns o p = true) (hi : ck N sc ns i j = true) :
    SimS cx A l env sc ns (exec (.Assign [.Subscript p j q] x pos) env) (execS cx.T Φ (.setitem o i e)) := by
  intro Γ H ρ s R e0 fr
  refine SimSK.to (SimSAt.bindK (K := fun v Q E s => wpAny (model cx.prog cx.w) A (eval p env) (fun ov s₂ => wpAny (model cx.prog cx.w) A (eval j env) (fun iv s₃ => wpAny (model cx.prog cx.w) A (setItem ov iv v) (fun _ => Q .next) E s₃) E s₂) E s) e0 ((eok G e x env sc ns Γ hx ha e0.len).val H ρ s R ⟨e0, fr⟩) ?_ ?_ fun Q E h => wpAny_Assign_Subscript h swaps_item)
  · intro b v H1 ρ1 s1 _ F1 R1 e1 vr
    refine SimSAt.bindK (K := fun ov Q E s => wpAny (model cx.prog cx.w) A (eval j env) (fun iv s₃ => wpAny (model cx.prog cx.w) A (setItem ov iv v) (fun _ => Q .next) E s₃) E s) e1 ((eok G o p env sc ns Γ hp ha e1.len).val H1 ρ1 s1 R1 ⟨e1, fr.full F1⟩) ?_ ?_ (fun Q E h => h)
    · intro b2 ov H2 ρ2 s2 _ F2 R2 e2 vo
      refine SimSAt.bindK (K := fun iv Q E s => wpAny (model cx.prog cx.w) A (setItem ov iv v) (fun _ => Q .next) E s) e2 ((eok G i j env sc ns Γ hi ha e2.len).val H2 ρ2 s2 R2 ⟨e2, (fr.full F1).full F2⟩) ?_ ?_ (fun Q E h => h)
      · intro b3 iv H3 ρ3 s3 _ F3 R3 e3 vi
        have vo' : VR cx ρ3 s3.heap b2 ov := VR.step F3.step vo
        have vi' : VR cx ρ3 s3.heap b3 iv := vi
        have vr' : VR cx ρ3 s3.heap b v := VR.step F3.step (VR.step F2.step vr)
        unfold bndS
        cases hr : setitemV b2 b3 b H3 with
        | bad => trivial
        | exc c H4 => exact (setitem_noexc hr).elim
        | ok u H4 =>
          refine ex1 (setitem_ok hr) fun a zz => aNd2 zz fun zr1 hs => ?_; subst zr1
          refine ex1 vo'.loc_inv fun p1 zz => aNd2 zz fun hp1 hr1 => ?_; refine Eq.symm hr1 ▸ ?_
          rcases hs with ⟨xs, k, hl, rfl, k0, k1, rfl⟩ | ⟨es, k, hl, hk, q, rfl⟩
          · refine hideG fun G kG => ?_
            obtain ⟨t, rfl⟩ := vi'.int_inv
            refine ex2 (R3.listAt hl hp1) fun vs n zz => aNd4 zz fun hpp g rr z => ?_
            refine kG ?_
            have z' := z
            rw [sizeLine_eq] at z'
            refine wp_setItem g k0 (by rw [← rr.length]; exact k1) (by omega) ?_
            refine ex1 (simAt_seq (b := .none) (v := .none) (ys := xs.set k.toNat b) R3 hp1 hpp g (fun w => w.setIfInBounds k.toNat v) (rr.setArr k.toNat vr') (by rw [List.length_set]; exact z) fun _ _ => .none) fun ρ' zz => aNd3 zz fun F R' _ => ?_
            exact ⟨rfl, ρ', F.toS, R', e3.full F⟩
          · exact wp_setDict G.u R3 hp1 hl hk q vi' vr' fun h' tk F R' => ⟨rfl, ρ3, F.toS, R', e3.full F⟩
      · exact fun _ Q E Q' E' s h k1 k2 => wpAny_mono h (fun _ _ => k1 _ _) k2
    · exact fun _ Q E Q' E' s h k1 k2 => wpAny_mono h (fun _ _ h' => wpAny_mono h' (fun _ _ => k1 _ _) k2) k2
  · exact fun _ Q E Q' E' s h k1 k2 => wpAny_mono h (fun _ _ h' => wpAny_mono h' (fun _ _ h2 => wpAny_mono h2 (fun _ _ => k1 _ _) k2) k2) k2
end
end Mine
-- part MExc
namespace Mine
open PySem
section
variable {cx : Cx} {N : Names} {A : Around} {Φ : Funs} {l : List Env} {d : Nat} {env : Env} {sc : Scope} {ns : List (Option Str)} {Γ : Env'} {H : Hp} {ρ ρ' : Rho} {s : Shared}
theorem sim_raise (G : Ground cx N A Φ l d) (ha : Apart ns) {c : Nat} {x msg : Str} {np cpos pos : Pos} {k : Nat} {mp : Pos} (hg : isGlob sc x = true) (hn : hasNo N.clss x c = true) (hck : ckEs N sc ns (.cons (.str msg) .nil) [.Constant (.str msg) k mp] = true) :
    SimS cx A l env sc ns (exec (.Raise (some (.Call (.Name x np) [.Constant (.str msg) k mp] [] cpos)) none pos) env) (execS cx.T Φ (.raise c msg)) := by
  intro Γ H ρ s R e0 fr
  rw [ex_raise]
  by_cases hi : ¬ cx.T.isExc c = true
  · rw [if_neg hi]; trivial
  have hi : cx.T.isExc c = true := Classical.not_not.mp hi
  rw [if_pos hi]
  refine ex1 (G.base.exc c hi) fun C zz => aNd2 zz fun hC ok => ?_
  refine ex2 G.base.ns fun mg mb zz => aNd6 zz fun ng nb _ _ q _ => ?_
  refine ex1 (q x c (hasNo_eq hn)) fun Cv zz => aNd2 zz fun hC' hx => ?_
  rw [hC] at hC'; cases hC'
  refine ex14 ok.is fun nm qn Nn bs bm hdct sn sub ab col dd k0 k1 k2 zz => ex3 zz fun k3 k5 mN zz => aNd5 zz fun hCo hNs hin tl _ => ?_
  have y := eoks G (.cons (.str msg) .nil) [.Constant (.str msg) k mp] env sc ns Γ hck ha e0.len H ρ s R ⟨e0, fr⟩
  have ev : evalEs cx.T Φ (.cons (.str msg) .nil) Γ H = .ok [.str msg] H := rfl
  rw [ev] at y
  have pl := plainArgs_trees (env := env) cpos (ckEs_plain hck)
  refine wpAny_Raise_call_subT (C := C) (nm := nm) (q := qn) (N := Nn) (bs := bs) (hdct := hdct) (sn := sn) (sub := sub) (ab := ab) (col := col) (dd := dd) (k0 := k0) (k1 := k1) (k2 := k2) (k3 := k3) (k5 := k5) F.excBase_ValueError (mN := mN) (bm := bm) (tl.hasType (by decide)) G.room.hh (by rw [pl]; exact any_false _) hin ?_
  refine wp_glob R e0.st hg ng nb hx ⟨rfl, ?_⟩
  rw [pl]
  refine Calls.evalArgs_plain (wpAny_mono y (fun vs s' ⟨ρ', F, R', vrs⟩ => ?_) fun _ _ q => q.elim)
  refine ⟨rfl, by have := vrs.length; skip; rw [← this]; show 1 ≤ 16777216; decide, R'.base _ _ hCo, hNs.keeps R'.base, tl.keeps R'.base, fun h' e m => ?_⟩
  have F' : Full ρ s.heap ρ' h' := F.trans (Full.more m.keeps)
  refine hideG fun G kG => ?_
  refine ex1 m.there fun t zz => aNd3 zz fun ht _ _ => ?_
  refine kG ?_
  exact ⟨ρ', F'.toS, R'.more (tk := s'.toks) m.keeps, e0.full F', e, C, _, rfl, hC, F.live.none m.new, ht, rfl, R'.fresh_not m.new, .inl rfl⟩
end
end Mine
-- part MCalm
namespace Mine
open PySem
structure GroundC (cx : Cx) (N : Names) (A : Around) (Φ : Funs) (l : List Env) (K : Nat → Bool) : Prop where
  base : Base cx N
  u : A.units + 100 < cLine
  funs : ∀ (f : Nat) (a : Addr) (args : List Val) (vals : List Value), K f = true → cx.fns[f]? = some a → Sim cx A ((Amb.vrs cx args vals).and (Amb.frames cx l)) (call (.ref a) vals) (Φ f args) (Amb.vr cx)
  defs : ∀ (f : Nat) (a : Addr), cx.fns[f]? = some a → ∃ g, cx.T.funs[f]? = some g
section
variable {cx : Cx} {N : Names} {A : Around} {Φ : Funs} {l : List Env} {d : Nat} {K : Nat → Bool} {env : Env} {sc : Scope} {ns : List (Option Str)} {Γ : Env'} {H : Hp} {ρ ρ' : Rho} {s : Shared}
mutual
theorem eokC (G : GroundC cx N A Φ l K) : ∀ (m : ME) (e : Expr) (env : Env) (sc : Scope) (ns : List (Option Str)) (Γ : Env'), calmE K m = true → ck N sc ns m e = true → Apart ns → Γ.length = ns.length → EOk cx A ((Amb.env cx env sc ns Γ).and (Amb.frames cx l)) Φ env Γ m e
  | .none, e, env, sc, ns, Γ, c, h, _, _ => by
    refine ex2 (inv_none h) fun k pos hr0 => ?_; refine Eq.symm hr0 ▸ ?_
    refine EOk.of (fun H ρ s R p => ?_) rfl
    exact simAt_pure R fun Q E k => wpAny_Constant_none (k _ s.toks .none)
  | .bool b, e, env, sc, ns, Γ, c, h, _, _ => by
    refine ex2 (inv_bool h) fun k pos zr2 => ?_; subst zr2
    refine EOk.of (fun H ρ s R p => ?_) rfl
    exact simAt_pure R fun Q E k => wpAny_Constant_bool (k _ s.toks (.bool b))
  | .int i, e, env, sc, ns, Γ, c, h, _, _ => by
    refine ex2 (inv_int h) fun k pos zr2 => ?_; subst zr2
    refine EOk.of (fun H ρ s R p => ?_) rfl
    exact simAt_pure R fun Q E k => wpAny_Constant_int (k _ _ (.int _ _))
  | .str v, e, env, sc, ns, Γ, c, h, _, _ => by
    refine ex2 (inv_str h) fun k pos zz => aNd2 zz fun zr2 z => ?_; subst zr2
    refine EOk.of (fun H ρ s R p => ?_) rfl
    exact simAt_pure R fun Q E k => wpAny_Constant_str (k _ _ (.str _ _ (by rw [sizeLine_eq]; exact o19 z)))
  | .var i, e, env, sc, ns, Γ, c, h, _, _ => by
    refine ex2 (inv_var h) fun x pos zz => aNd2 zz fun zr2 h1 => ?_; subst zr2
    exact EOk.of (sim_var h1 Φ).and1 rfl
  | .bin op a b, e, env, sc, ns, Γ, c, h, ha, hΓ => by
    refine ex4 (inv_bin h) fun x o y pos zz => aNd4 zz fun hr5 h1 h2 h3 => ?_; refine Eq.symm hr5 ▸ ?_
    exact eok_bin h1 (eokC G a x env sc ns Γ (an1 c) h2 ha hΓ) (eokC G b y env sc ns Γ (an2 c) h3 ha hΓ)
  | .cmp op a b, e, env, sc, ns, Γ, c, h, ha, hΓ => by
    refine ex3 (inv_cmp h) fun x y pos zz => aNd4 zz fun hr6 h1 h2 h3 => ?_; refine Eq.symm hr6 ▸ ?_
    exact eok_cmp G.u h3 (eokC G a x env sc ns Γ (an1 c) h1 ha hΓ) (eokC G b y env sc ns Γ (an2 c) h2 ha hΓ)
  | .call f es, e, env, sc, ns, Γ, c, h, ha, hΓ => by
    refine ex4 (inv_call h) fun x np xs pos zz => aNd5 zz fun hr7 h1 h2 h3 h4 => ?_; refine Eq.symm hr7 ▸ ?_
    refine EOk.of ?_ rfl
    refine ex2 G.base.ns fun mg mb zz => aNd4 zz fun ng nb q _ => ?_
    refine ex1 (q x f (hasNo_eq h2)) fun a zz => aNd2 zz fun ha' _ => ?_
    exact sim_callU G.base (fun a args vals h => G.funs f a args vals (an1 c) h) h1 h2 (G.defs f a ha') h3 (eoksC G es xs env sc ns Γ (an2 c) h3 ha hΓ)
  | .bm a m es, e, env, sc, ns, Γ, c, h, ha, hΓ => by
    refine ex5 (inv_bm h) fun o y apos xs pos zz => aNd7 zz fun zr5 h1 zr7 h3 h4 h5 h6 => ?_; subst zr5; subst zr7
    refine EOk.of ?_ rfl
    exact sim_bm h5 (ckEs_plain h4) (by rw [← h3]; cases m <;> decide) (fun e => ckEs_nil (e ▸ h4)) h6 (eokC G a o env sc ns Γ (an2 (an1 c)) h1 ha hΓ).val (eoksC G es xs env sc ns Γ (an2 c) h4 ha hΓ)
      (fun b v ms vs hl => bm_one G.u m b v ms vs (bm_len h3 hl)) (fun _ _ _ e => evalEs_length h4 e)
  | .isinst a t, e, env, sc, ns, Γ, c, h, ha, hΓ => by
    refine ex6 (inv_isinst h) fun f np x y yp pos zz => aNd6 zz fun hr8 h1 h2 h3 h4 h5 => ?_; refine Eq.symm hr8 ▸ ?_
    have z := eokC G a x env sc ns Γ c h4 ha hΓ
    cases t with
    | cls c => exact eok_isiC G.base h1 h2 h3 h5 (ck_notStar h4) z
    | int => exact eok_isi G.base (fun c => by intro q; cases q) h1 h2 h3 (of_decide_eq_true h5) (ck_notStar h4) z
    | bool => exact eok_isi G.base (fun c => by intro q; cases q) h1 h2 h3 (of_decide_eq_true h5) (ck_notStar h4) z
    | str => exact eok_isi G.base (fun c => by intro q; cases q) h1 h2 h3 (of_decide_eq_true h5) (ck_notStar h4) z
    | tuple => exact eok_isi G.base (fun c => by intro q; cases q) h1 h2 h3 (of_decide_eq_true h5) (ck_notStar h4) z
    | list => exact eok_isi G.base (fun c => by intro q; cases q) h1 h2 h3 (of_decide_eq_true h5) (ck_notStar h4) z
  | .glob _, _, _, _, _, _, c, _, _, _ => by cases c
  | .neg _, _, _, _, _, _, c, _, _, _ => by cases c
  | .not _, _, _, _, _, _, c, _, _, _ => by cases c
  | .and _ _, _, _, _, _, _, c, _, _, _ => by cases c
  | .or _ _, _, _, _, _, _, c, _, _, _ => by cases c
  | .cmp2 _ _ _ _ _, _, _, _, _, _, c, _, _, _ => by cases c
  | .sub _ _, _, _, _, _, _, c, _, _, _ => by cases c
  | .slice _ _ _, _, _, _, _, _, c, _, _, _ => by cases c
  | .tup _, _, _, _, _, _, c, _, _, _ => by cases c
  | .list _, _, _, _, _, _, c, _, _, _ => by cases c
  | .dict, _, _, _, _, _, c, _, _, _ => by cases c
  | .attr _ _, _, _, _, _, _, c, _, _, _ => by cases c
  | .new _ _, _, _, _, _, _, c, _, _, _ => by cases c
  | .umeth _ _ _, _, _, _, _, _, c, _, _, _ => by cases c
  | .bf _ _, _, _, _, _, _, c, _, _, _ => by cases c
  | .comp _ _ _, _, _, _, _, _, c, _, _, _ => by cases c
theorem eoksC (G : GroundC cx N A Φ l K) : ∀ (ms : MEs) (xs : List Expr) (env : Env) (sc : Scope) (ns : List (Option Str)) (Γ : Env'), calmEs K ms = true → ckEs N sc ns ms xs = true → Apart ns → Γ.length = ns.length →
    Sim cx A ((Amb.env cx env sc ns Γ).and (Amb.frames cx l)) (spliced (xs.map fun e => (false, eval e env))) (evalEs cx.T Φ ms Γ) (Amb.vrs cx)
  | .nil, [], env, sc, ns, Γ, c, h, ha, hΓ => sim_nil
  | .nil, _ :: _, env, sc, ns, Γ, c, h, ha, hΓ => by cases (show false = true from h)
  | .cons _ _, [], env, sc, ns, Γ, c, h, ha, hΓ => by cases (show false = true from h)
  | .cons m ms, x :: xs, env, sc, ns, Γ, c, h, ha, hΓ => sim_cons (eokC G m x env sc ns Γ (an1 c) (an1 h) ha hΓ).val (eoksC G ms xs env sc ns Γ (an2 c) (an2 h) ha hΓ)
end
theorem sim_ret_of {m : MEo} {x : Option Expr} {pos : Pos} (hm : ckO N sc ns m x = true) (he : ∀ e x', m = .some e → x = some x' → ck N sc ns e x' = true → ∀ Γ : Env', Γ.length = ns.length → EOk cx A ((Amb.env cx env sc ns Γ).and (Amb.frames cx l)) Φ env Γ e x') : SimS cx A l env sc ns (exec (.Return x pos) env) (execS cx.T Φ (.ret m)) := by
  intro Γ H ρ s R e0 fr
  match m, x, hm, he with
  | .none, none, _, _ => exact wpAny_Return_none ⟨_, ρ, rfl, FullS.refl _ _ _, R, .none, e0.st⟩
  | .some e, some x, hm, he =>
    exact SimSK.to (SimSAt.bindK (K := fun v Q _ s => Q (.ret v) s) e0 ((he e x rfl rfl hm Γ e0.len).val H ρ s R ⟨e0, fr⟩) (fun b v H1 ρ1 s1 _ F1 R1 e1 vr => ⟨v, ρ1, rfl, FullS.refl _ _ _, R1, vr, e1.st⟩) (fun _ Q E Q' E' s h k1 _ => k1 _ _ h) fun Q E h => wpAny_Return_some h)
  | .none, some _, h, _ => cases (show false = true from h)
  | .some _, none, h, _ => cases (show false = true from h)
theorem sim_ite_of {c : ME} {t f : MSs} {x : Expr} {ts fs : List Stmt} {pos : Pos} (hc : ∀ Γ : Env', Γ.length = ns.length → EOk cx A ((Amb.env cx env sc ns Γ).and (Amb.frames cx l)) Φ env Γ c x) (ht : SimS cx A l env sc ns (execs ts env) (execSs cx.T Φ t)) (hf : SimS cx A l env sc ns (execs fs env) (execSs cx.T Φ f)) :
    SimS cx A l env sc ns (exec (.If x ts fs pos) env) (execS cx.T Φ (.ite c t f)) := by
  intro Γ H ρ s R e0 fr
  refine SimSK.to (SimSAt.bindK (K := fun b Q E s => if b = true then wpAny (model cx.prog cx.w) A (execs ts env) Q E s else wpAny (model cx.prog cx.w) A (execs fs env) Q E s) e0 ((hc Γ e0.len).tru H ρ s R ⟨e0, fr⟩) ?_ ?_ fun Q E h => wpAny_If h)
  · intro b b' H1 ρ1 s1 _ F1 R1 e1 hb
    have hb' : b' = b := hb
    refine hb' ▸ ?_
    cases b' with
    | true => exact (SimSK.of (ht Γ H1 ρ1 s1 R1 e1 (fr.full F1))).mono fun Q E h => h
    | false => exact (SimSK.of (hf Γ H1 ρ1 s1 R1 e1 (fr.full F1))).mono fun Q E h => by simpa using h
  · intro b Q E Q' E' s h k1 k2
    cases b
    · simp only [Bool.false_eq_true, if_false] at h ⊢; exact wpAny_mono h k1 k2
    · simp only [if_true] at h ⊢; exact wpAny_mono h k1 k2
mutual
theorem sokC (G : GroundC cx N A Φ l K) (ha : Apart ns) : ∀ (m : MS) (st : Stmt), calmS K m = true → ckS N sc ns m st = true → SimS cx A l env sc ns (exec st env) (execS cx.T Φ m)
  | .assign i e, st, c, h => by
    obtain ⟨t, h⟩ := seen_of h
    rw [t.2]
    refine sim_assign_plain ha (an1 h) (swaps_not (an2 h) fun a b d w => ?_) fun Γ hΓ => eokC G e _ env sc ns Γ c (an2 h) ha hΓ
    rw [w] at c; cases (show false = true from c)
  | .ret e, st, c, h => by
    obtain ⟨t, h⟩ := seen_of h
    rw [t.2]
    exact sim_ret_of h fun e' x' he _ hk Γ hΓ => eokC G e' x' env sc ns Γ (by rw [he] at c; exact c) hk ha hΓ
  | .ite c t f, st, q, h => by
    obtain ⟨p, h⟩ := seen_of h
    rw [p.2]
    exact sim_ite_of (fun Γ hΓ => eokC G c _ env sc ns Γ (an1 (an1 q)) (an1 (an1 h)) ha hΓ) (soksC G ha t p.1.2.1 (an2 (an1 q)) (an2 (an1 h))) (soksC G ha f p.1.2.2.1 (an2 q) (an2 h))
  | .expr _, _, c, _ => by cases c
  | .setattr _ _ _, _, c, _ => by cases c
  | .setitem _ _ _, _, c, _ => by cases c
  | .each _ _ _, _, c, _ => by cases c
  | .eachZip _ _ _ _ _, _, c, _ => by cases c
  | .eachEnum _ _ _ _, _, c, _ => by cases c
  | .raise _ _, _, c, _ => by cases c
  | .tryx _ _, _, c, _ => by cases c
theorem soksC (G : GroundC cx N A Φ l K) (ha : Apart ns) : ∀ (m : MSs) (sts : List Stmt), calmSs K m = true → ckSs N sc ns m sts = true → SimS cx A l env sc ns (execs sts env) (execSs cx.T Φ m)
  | .nil, [], _, _ => by
    intro Γ H ρ s R e0 fr
    exact wpAny_execs_nil ⟨rfl, ρ, FullS.refl _ _ _, R, e0⟩
  | .nil, _ :: _, _, h => by cases (show false = true from h)
  | .cons _ _, [], _, h => by cases (show false = true from h)
  | .cons m ms, st :: sts, c, h => by
    intro Γ H ρ s R e0 fr
    exact sim_then e0 fr (sokC G ha m st (an1 c) (an1 h) Γ H ρ s R e0 fr) (soksC G ha ms sts (an2 c) (an2 h))
end
theorem calm_call (B : Base cx N) (defs : ∀ (f : Nat) (a : Addr), cx.fns[f]? = some a → ∃ g, cx.T.funs[f]? = some g) {k : Nat} {a : Addr} {args : List Val} {vals : List Value} (hc : calmFn cx.T k = true) (hk : cx.fns[k]? = some a) (room : RoomQ A (d + 1)) (hfr : A.frames = some l) :
    Sim cx A ((Amb.vrs cx args vals).and (Amb.frames cx l)) (call (.ref a) vals) (callF cx.T (d + 1) k args) (Amb.vr cx) := by
  refine call_step B hk room hfr fun f stmts env sc ns hf h1 h2 h3 h4 => ?_
  have c : calmSs (fun _ => false) f.body = true := by unfold calmFn at hc; rw [hf] at hc; exact hc
  exact soksC (K := fun _ => false) ⟨B, by have := room.units; show A.units + 3 + 100 < _; exact o152 this, fun f a args vals h => (by exact nomatch h), defs⟩ h2 f.body stmts c h1
end
end Mine
-- part MTry
namespace Mine
open PySem
noncomputable def FunsC (cx : Cx) (Φ : Funs) (d : Nat) : Prop :=
  ∀ (k : Nat) (a : Addr) (args : List Val) (vals : List Value) (A : Around) (l : List Env), calmFn cx.T k = true → cx.fns[k]? = some a → RoomQ A d → A.frames = some l →
    Sim cx A ((Amb.vrs cx args vals).and (Amb.frames cx l)) (call (.ref a) vals) (Φ k args) (Amb.vr cx)
theorem funsC_ok {cx : Cx} {N : Names} (B : Base cx N) (defs : ∀ (f : Nat) (a : Addr), cx.fns[f]? = some a → ∃ g, cx.T.funs[f]? = some g) : ∀ d, FunsC cx (callF cx.T d) d
  | 0 => fun k a args vals A l _ _ _ _ H ρ s R p => trivial
  | d + 1 => fun k a args vals A l hc hk room hfr => calm_call B defs hc hk room hfr
section
variable {M : Model} {A : Around} {E : Value → Shared → Prop} {h : Heap} {g : Array GenState} {d : Drawn} {t : Nat} {os : OsState}
variable {nm q : Str} {C N : Addr} {bs bm : List Value} {hdct : Bool} {sn : List Str} {sub : List Value} {ab : Bool} {col : Option Bool} {dd : Option Addr} {k0 k1 k2 k3 k5 : Option Value} {newId : String}
variable {nm' q' : Str} {C' N' : Addr} {bs' bm' : List Value} {hdct' : Bool} {sn' : List Str} {sub' : List Value} {ab' : Bool} {col' : Option Bool} {dd' : Option Addr} {k0' k1' k2' k3' k5' : Option Value} {newId' : String}
theorem wp_matches {e : Addr} {oe : Obj} {Q : Bool → Shared → Prop} (hC : h.get? C = some (excClassObj nm q C N bs bm hdct sn sub ab col dd k0 k1 k2 k3 k5 newId)) (hD : h.get? C' = some (excClassObj nm' q' C' N' bs' bm' hdct' sn' sub' ab' col' dd' k0' k1' k2' k3' k5' newId')) (he : h.get? e = some oe) (hcls : oe.cls = .ref C) (hbase : bm'.contains (.type "BaseException") = true)
    (hq : Q ((Value.ref C :: bm).contains (.ref C')) ⟨h, g, d, t, os⟩) : wpAny M A (excMatches (.ref e) (.ref C')) Q E ⟨h, g, d, t, os⟩ := by
  have hcB : (Value.ref C' :: bm').contains (.type "BaseException") = true := by rw [List.contains_cons, hbase, Bool.or_true]
  have f := tc_notTuple
  generalize hb : (Value.ref C :: bm).contains (.ref C') = b at hq
  unfold excMatches
  repeat (first | (with_reducible refine wpAny_loadPart_at he ?_; rw [hcls]) | with_reducible refine wpAny_loadPart_at hD ?_ | (with_reducible refine wpAny_isSubtype_exc hD ?_; rw [hcB]) | (with_reducible refine wpAny_isSubtype_exc hC ?_; rw [hb]) | wp_step)
  cases b <;> (wp_walk; exact hq)
end
section
variable {cx : Cx} {N : Names} {A : Around} {Φ : Funs} {l : List Env} {d : Nat} {env : Env} {sc : Scope} {ns : List (Option Str)} {Γ : Env'} {H : Hp} {ρ ρ₀ : Rho} {s : Shared} {h : Heap} {c : Nat} {e : Value} {Q : Flow → Shared → Prop} {E : Value → Shared → Prop}
theorem wp_pass (lb : Live cx.h₀ h) (fl : Flown cx ρ h s.heap c e) {what : String} (k : ∀ h', Off cx ρ h s.heap h' → Flown cx ρ h h' c e → E e { s with heap := h' }) : wpAny (model cx.prog cx.w) A (passOn what e env : Sem Flow) Q E s := by
  refine hideG fun G kG => ?_
  refine ex5 fl.is fun a C vs tb tvs zz => aNd11 zz fun zr5 hC ha ga hz no h1 htb gtb hzt not => ?_; subst zr5
  refine kG ?_
  unfold passOn
  refine wpAny_bind (wpAny_field ga rfl h1 ?_)
  exact wpAny_bind (wp_flight lb ⟨a, C, vs, tb, tvs, rfl, hC, ha, ga, hz, no, h1, htb, gtb, hzt, not⟩ fun h' o' fl' => wpAny_throw (k h' o' fl'))
theorem suite_ok {e : Value} {b : MSs} {ts : List Stmt} {K : Nat → Bool} {v : Val} {H' : Hp} {Γ' : Env'} (G : GroundC cx N (A.mark (some e)) Φ (env :: l) K) (ha : Apart ns) (hc : calmSs K b = true) (hk : ckSs N sc ns b ts = true) (hr : execSs cx.T Φ b Γ' H = .ret v H') (R : Rel cx H ρ s) (e0 : EnvOk cx env sc ns Γ' ρ s.heap) (w : FramesOk cx (env :: l) ρ s.heap) (F : FullS env ρ₀ h ρ s.heap)
    (k : ∀ v' ρ' s', FullS env ρ₀ h ρ' s'.heap → Rel cx H' ρ' s' → VR cx ρ' s'.heap v v' → EnvSt cx env sc ρ' s'.heap → Q (.ret v') s') : wpAny (model cx.prog cx.w) (A.mark (some e)) (execs ts env) Q (fun x s' => False) s := by
  have y := soksC (env := env) G ha b ts hc hk Γ' H ρ s R e0 w
  rw [hr] at y
  exact wpAny_mono y (fun f s' ⟨v', ρ', h1, F1, R1, vr⟩ => by refine Eq.symm h1 ▸ ?_; exact k v' ρ' s' (F.trans F1) R1 vr.1 vr.2) fun _ _ q => q.elim
theorem Step.loc {h h' : Heap} (x : EnvSt cx env sc ρ h) (sb : Heap.SameBut env.locals h h') (e' : ∃ o, h'.get? env.locals = some o) : Step ρ h ρ h' := by
  have k : ∀ b o, h.get? b = some o → b ≠ env.locals → h'.get? b = some o := fun b o e n => (sb.2 b n).trans e
  exact ⟨⟨[], by simp⟩, fun b o e f n => ⟨k b o e (x.notLoc e f.notDict), n⟩, fun b o C e f n => ⟨o, k b o e (x.notLoc e f.notDict), f, n⟩⟩
theorem name_goes {n : Str} {pos : Pos} {Q : Unit → Shared → Prop} (hl : sc.names.lookup n = some .local) (R : Rel cx H ρ s) (st : EnvSt cx env sc ρ s.heap) (F : FullS env ρ₀ h ρ s.heap)
    (k : ∀ h' tk, FullS env ρ₀ h ρ h' → Rel cx H ρ { s with heap := h', toks := tk } → Step ρ s.heap ρ h' → EnvSt cx env sc ρ h' → Q () { s with heap := h', toks := tk }) : wpAny (model cx.prog cx.w) A (do bindName env n .none; unbindBehindTheSuite env n pos) Q E s := by
  obtain ⟨m, hm⟩ := st.loc
  refine wpAny_nameGoes (m := m) (st.kinds n _ hl) hm (by rw [st.fn]; rfl) fun h' m' hn' sb => ?_
  refine hideG fun G kG => ?_
  refine ex3 (id hn') fun o' es' ep' zz => aNd3 zz fun e' d' _ => ?_
  refine kG ?_
  have stp := Step.loc st sb ⟨o', e'⟩
  have kk : ∀ b o, s.heap.get? b = some o → b ≠ env.locals → h'.get? b = some o := fun b o e n => (sb.2 b n).trans e
  refine k h' _ ⟨F.grow, fun b o e n n1 n2 => ?_, fun b o e => ?_⟩ (R.same stp (fun b o w e => kk b o e fun q => st.locN (q ▸ w)) fun b o e => kk b o (R.base b o e) fun q => by rw [q, st.locB] at e; exact nomatch e) stp ⟨st.fn, st.glob, st.blt, st.kinds, ⟨m', hn'⟩, st.locN, st.locB, fun y c hc => ?_, st.hasCell, st.apart⟩
  · refine ex1 (F.keep b o e n n1 n2) fun o1 zz => aNd2 zz fun e1 u1 => ?_
    exact ⟨o1, kk b o1 e1 n1, u1⟩
  · obtain ⟨o1, e1⟩ := F.live b o e
    by_cases q : b = env.locals
    · exact ⟨o', q ▸ e'⟩
    · exact ⟨o1, kk b o1 e1 q⟩
  · refine hideG fun G kG => ?_
    refine aNd3 (st.cells y c hc) fun zn0 n b => ?_; obtain ⟨v, o, eo, dv⟩ := zn0
    refine kG ?_
    exact ⟨⟨v, o, kk c o eo (st.notLoc eo fun es k q => by rw [dv] at q; cases q), dv⟩, n, b⟩
theorem exh_cons (T : Tab) (Φ : Funs) (d : Nat) (i : Option Nat) (body : MSs) (hs : MHs) (c : Nat) (Γ : Env') (H : Hp) : execH T Φ (.cons d i body hs) c Γ H = (if (T.isExc c && T.isExc d && calmSs (calmFn T) body) = false then .bad else if T.sub c d = true then
      match execSs T Φ body (match i with | some i => Γ.set i (some (.exc c)) | none => Γ) H with
      | .ret v H' => .ret v H'
      | _ => .bad
    else execH T Φ hs c Γ H) := rfl
theorem exh_ret {r : ResS} (h : (match r with | .ret v H' => ResS.ret v H' | _ => .bad) ≠ .bad) : ∃ v H', r = .ret v H' := by
  cases r with
  | ret v H' => exact ⟨v, H', rfl⟩
  | bad => exact absurd rfl h
  | next _ _ => exact absurd rfl h
  | exc _ _ _ => exact absurd rfl h
theorem handler_ok (G : Ground cx N A Φ (env :: l) d) (FC : FunsC cx Φ d) (ha : Apart ns) (lb : Live cx.h₀ h) {b : MSs} {i : Option Nat} {y : Option Str} {t : Stmt} {ts : List Stmt} {pos : Pos} {v : Val} {H' : Hp} (hcalm : calmSs (calmFn cx.T) b = true) (hck : ckSs N sc ns b (t :: ts) = true) (hr : execSs cx.T Φ b (match i with | some i => Γ.set i (some (.exc c)) | none => Γ) H = .ret v H') (hnm : hdName sc ns i y = true)
    (R : Rel cx H ρ s) (e0 : EnvOk cx env sc ns Γ ρ s.heap) (w : FramesOk cx (env :: l) ρ s.heap) (F : FullS env ρ₀ h ρ s.heap) (fl : Flown cx ρ h s.heap c e) (p : PostS cx env sc ns ρ₀ h (.ret v H') Q E) :
    codeAny (model cx.prog cx.w) (A.mark (some e)) (.handlers e [.ExceptHandler none y (t :: ts) pos] env) (fun r s₂ => match r with
          | .ok f => (match (generalizing := false) y with
            | none => Q f s₂
            | some n => wpAny (model cx.prog cx.w) A (do bindName env n .none; unbindBehindTheSuite env n pos) (fun _ s₃ => Q f s₃) E s₂)
          | .error x => cameBackBy (model cx.prog cx.w) A env E x s₂) s := by
  have GC : GroundC cx N (A.mark (some e)) Φ (env :: l) (calmFn cx.T) := ⟨G.base, G.u, fun f a args vals hc hf => FC f a args vals (A.mark (some e)) (env :: l) hc hf ⟨by have := G.room.depth; show A.depth + _ + _ < _; exact o2 this, by have := G.room.units; show A.units + _ + _ < _; exact o3 this⟩ G.frames, G.defs⟩
  cases i with
  | none =>
    cases y with
    | some _ => cases hnm
    | none =>
      refine codeAny_handlers_suite (wp_flight lb fl fun h1 o1 fl1 => ?_)
      exact wpAny_mono (suite_ok (s := { s with heap := h1 }) GC ha hcalm hck hr (o1.rel R) (o1.envK e0) (o1.frames w) (o1.fullS F) fun v' ρ' s' F' R' vr st => p s' ρ' v' F' R' ⟨vr, st⟩) (fun _ _ q => q) fun _ _ q => q.elim
  | some i =>
    cases y with
    | none => cases hnm
    | some n =>
      have hown : isOwn sc ns i n = true := an1 hnm
      have hloc : sc.names.lookup n = some .local := of_decide_eq_true (an2 hnm)
      refine codeAny_handlers_suite_as (wp_flight lb fl fun h1 o1 fl1 => ?_)
      refine store_var (s := { s with heap := h1 }) (o1.envK e0).len ha (o1.rel R) (o1.envK e0) hown fl1.vr fun h2 tk2 F2 R2 e2 _ => ?_
      refine wpAny_mono (suite_ok (s := { s with heap := h2, toks := tk2 }) GC ha hcalm hck hr R2 e2 ((o1.frames w).stmt F2 (o1.envK e0).st e2.st) ((o1.fullS F).trans F2) fun v' ρ' s' F' R' vr st => ?_) (fun _ _ q => q) fun _ _ q => q.elim
      exact name_goes hloc R' st F' fun h3 tk3 F3 R3 stp st3 => p { s' with heap := h3, toks := tk3 } ρ' v' F3 R3 ⟨vr.step stp, st3⟩
theorem handle_ok (G : Ground cx N A Φ (env :: l) d) (FC : FunsC cx Φ d) (ha : Apart ns) (lb : Live cx.h₀ h) : ∀ (hs : MHs) (hx : List ExceptHandler), ckHs N sc ns hs hx = true → Rel cx H ρ s → EnvOk cx env sc ns Γ ρ s.heap → FramesOk cx (env :: l) ρ s.heap → FullS env ρ₀ h ρ s.heap → Flown cx ρ h s.heap c e → execH cx.T Φ hs c Γ H ≠ .bad → PostS cx env sc ns ρ₀ h (execH cx.T Φ hs c Γ H) Q E → wpAny (model cx.prog cx.w) A (handleBy e env hx) Q E s
  | .nil, [], _, R, e0, w, F, fl, _, p => wpAny_handleBy_nil (wp_pass lb fl fun h' o' fl' => p e { s with heap := h' } ρ (o'.fullS F) (o'.rel R) (o'.envK e0) fl'.to)
  | .nil, _ :: _, hk, _, _, _, _, _, _, _ => by cases (show false = true from hk)
  | .cons _ _ _ _, [], hk, _, _, _, _, _, _, _ => by cases (show false = true from hk)
  | .cons dc i b hs, hd :: hx, hk, R, e0, w, F, fl, nb, p => by
    obtain ⟨t, hc⟩ := seen_of (an1 hk)
    rw [t.2]
    rw [exh_cons] at nb p
    by_cases q1 : (cx.T.isExc c && cx.T.isExc dc && calmSs (calmFn cx.T) b) = false
    · rw [if_pos q1] at nb; exact absurd rfl nb
    rw [if_neg q1] at nb p
    have q2 : (cx.T.isExc c && cx.T.isExc dc && calmSs (calmFn cx.T) b) = true := by cases q : (cx.T.isExc c && cx.T.isExc dc && calmSs (calmFn cx.T) b) <;> first | rfl | exact absurd q q1
    refine ex2 G.base.ns fun mg mb zz => aNd6 zz fun ng nbl _ _ qc _ => ?_
    refine ex1 (qc _ dc (hasNo_eq (an2 (an1 (an1 hc))))) fun Dv zz => aNd2 zz fun hDv hxv => ?_
    refine ex1 (G.base.exc c (an1 (an1 q2))) fun C zz => aNd2 zz fun hC okC => ?_
    refine ex1 (G.base.exc dc (an2 (an1 q2))) fun D zz => aNd2 zz fun hD okD => ?_
    rw [hD] at hDv; cases hDv
    refine ex14 okC.is fun nm qn Nn bs bm hdct sn sub ab col dd k0 k1 k2 zz => ex3 zz fun k3 k5 mN zz => aNd5 zz fun hCo hNs hin tl hsub => ?_
    refine ex14 okD.is fun nm' qn' Nn' bs' bm' hdct' sn' sub' ab' col' dd' k0' k1' k2' zz => ex3 zz fun k3' k5' mN' zz => aNd5 zz fun hDo hNs' hin' tl' hsub' => ?_
    refine ex5 (id fl.is) fun a C' vs tb tvs zz => aNd7 zz fun he hC' hna ga hz no h7 => ?_
    rw [hC] at hC'; cases hC'
    refine wpAny_handleBy_cons (codeAny_handlers_test (wp_glob (A := A.mark (some e)) R e0.st (an1 (an1 (an1 hc))) ng nbl hxv ?_)) (by rw [he]; intro q; cases q)
    have m := hsub dc (.ref D) hD
    have goal : ∀ z, (Value.ref C :: bm).contains (.ref D) = z → (if z = true then codeAny (model cx.prog cx.w) (A.mark (some e)) (.handlers e [.ExceptHandler none t.1.2.2.1 (t.1.2.2.2.1 :: t.1.2.2.2.2.1) t.1.2.2.2.2.2] env) (fun r s₂ => match r with
          | .ok f => (match t.1.2.2.1 with
            | none => Q f s₂
            | some n => wpAny (model cx.prog cx.w) A (do bindName env n .none; unbindBehindTheSuite env n t.1.2.2.2.2.2) (fun _ s₃ => Q f s₃) E s₂)
          | .error x => cameBackBy (model cx.prog cx.w) A env E x s₂) s else wpAny (model cx.prog cx.w) A (handleBy e env hx) Q E s) := by
      intro z hz'
      rw [hz'] at m
      rw [m] at nb p
      cases z with
      | true =>
        rw [if_pos rfl] at nb p ⊢
        refine ex2 (exh_ret nb) fun v H' hr => ?_
        rw [hr] at p
        exact handler_ok G FC ha lb (an2 q2) (an2 (an1 hc)) hr (an2 hc) R e0 w F fl p
      | false =>
        rw [if_neg (by decide)] at nb p ⊢
        exact handle_ok G FC ha lb hs hx (an2 hk) R e0 w F fl nb p
    have g := goal _ rfl
    rw [he]
    rw [he] at g
    obtain ⟨hp, gg, dr, tk, os⟩ := s
    refine wp_matches (R.base _ _ hCo) (R.base _ _ hDo) ga rfl (tl'.hasType (by decide)) ?_
    cases z : (Value.ref C :: bm).contains (.ref D) with
    | true => rw [z, if_pos rfl] at g; exact g
    | false => rw [z, if_neg (by decide)] at g; exact g
theorem sim_try (G : Ground cx N A Φ (env :: l) d) (FC : FunsC cx Φ d) (ha : Apart ns) (hef : env.frame = some env.locals) {b : MSs} {hs : MHs} {ts : List Stmt} {h0 : ExceptHandler} {hx : List ExceptHandler} {pos : Pos} (hb : SimS cx A (env :: l) env sc ns (execs ts env) (execSs cx.T Φ b)) (hk : ckHs N sc ns hs (h0 :: hx) = true) :
    SimS cx A (env :: l) env sc ns (exec (.Try ts (h0 :: hx) [] [] pos) env) (execS cx.T Φ (.tryx b hs)) := by
  intro Γ H ρ s R e0 fr
  have B := hb Γ H ρ s R e0 fr
  have ex : execS cx.T Φ (.tryx b hs) Γ H = (match execSs cx.T Φ b Γ H with | .exc c Γ' H' => execH cx.T Φ hs c Γ' H' | r => r) := rfl
  rw [ex]
  cases hr : execSs cx.T Φ b Γ H with
  | bad => trivial
  | next Γ' H' =>
    rw [hr] at B
    exact wpAny_Try_except (wpAny_mono B (fun f s' ⟨h1, q⟩ => by refine Eq.symm h1 ▸ ?_; exact wpAny_execs_nil ⟨rfl, q⟩) fun _ _ q => q.elim)
  | ret v H' =>
    rw [hr] at B
    exact wpAny_Try_except (wpAny_mono B (fun f s' ⟨v', ρ', h1, q⟩ => by refine Eq.symm h1 ▸ ?_; exact ⟨v', ρ', rfl, q⟩) fun _ _ q => q.elim)
  | exc c Γ' H' =>
    rw [hr] at B
    refine SimSK.to (SimSK.ofPost (T := fun Q E s => wpAny (model cx.prog cx.w) A (exec (.Try ts (h0 :: hx) [] [] pos) env) Q E s) fun Q E nb p => ?_)
    refine wpAny_Try_except (wpAny_mono B (fun _ _ q => q.elim) fun e s' ⟨ρ', F, R', e', fl⟩ => ?_)
    have w' := fr.stmt F e0.st e'.st
    have lb : Live cx.h₀ s.heap := fun b o e => ⟨o, R.base b o e⟩
    refine wp_note G.frames hef w' R' lb F.live fl fun h1 o1 fl1 => wp_flight (s := { s' with heap := h1 }) lb fl1 fun h2 o2 fl2 => ?_
    have o := o1.trans o2
    exact handle_ok (s := { s' with heap := h2 }) G FC ha lb hs (h0 :: hx) hk (o.rel R') (o.envK e') (o.frames w') (o.fullS F) fl2 nb p
end
end Mine
-- part MBody
namespace Mine
open PySem
section
variable {cx : Cx} {N : Names} {A : Around} {Φ : Funs} {l : List Env} {d : Nat} {env : Env} {sc : Scope} {ns : List (Option Str)} {Γ : Env'} {H : Hp} {ρ ρ' : Rho} {s : Shared}
theorem sim_expr (G : Ground cx N A Φ l d) {m : ME} {x : Expr} {pos : Pos} (ha : Apart ns) (hm : ck N sc ns m x = true) (hc : notComp m = true) : SimS cx A l env sc ns (exec (.Expr x pos) env) (execS cx.T Φ (.expr m)) := by
  intro Γ H ρ s R e0 fr
  have nc : ∀ a b c, m ≠ .comp a b c := fun a b c q => by subst q; cases hc
  refine SimSK.to (SimSAt.bindK (K := fun _ Q _ s => Q .next s) e0 ((eok G m x env sc ns Γ hm ha e0.len).val H ρ s R ⟨e0, fr⟩) (fun b v H1 ρ1 s1 _ F1 R1 e1 vr => ⟨rfl, ρ1, FullS.refl _ _ _, R1, e1⟩) (fun _ Q E Q' E' s h k1 _ => k1 _ _ h) fun Q E h => ?_)
  refine wpAny_Expr_any h ?_ (swaps_not hm nc)
  unfold interactive
  rw [e0.st.fn]; rfl
theorem sim_ret (G : Ground cx N A Φ l d) {m : MEo} {x : Option Expr} {pos : Pos} (ha : Apart ns) (hm : ckO N sc ns m x = true) : SimS cx A l env sc ns (exec (.Return x pos) env) (execS cx.T Φ (.ret m)) := by
  intro Γ H ρ s R e0 fr
  match m, x, hm with
  | .none, none, _ =>
    exact wpAny_Return_none ⟨_, ρ, rfl, FullS.refl _ _ _, R, .none, e0.st⟩
  | .some e, some x, hm =>
    exact SimSK.to (SimSAt.bindK (K := fun v Q _ s => Q (.ret v) s) e0 ((eok G e x env sc ns Γ hm ha e0.len).val H ρ s R ⟨e0, fr⟩) (fun b v H1 ρ1 s1 _ F1 R1 e1 vr => ⟨v, ρ1, rfl, FullS.refl _ _ _, R1, vr, e1.st⟩) (fun _ Q E Q' E' s h k1 _ => k1 _ _ h) fun Q E h => wpAny_Return_some h)
  | .none, some _, h => cases (show false = true from h)
  | .some _, none, h => cases (show false = true from h)
theorem sim_ite (G : Ground cx N A Φ l d) {c : ME} {t f : MSs} {x : Expr} {ts fs : List Stmt} {pos : Pos} (ha : Apart ns) (hm : ck N sc ns c x = true) (ht : SimS cx A l env sc ns (execs ts env) (execSs cx.T Φ t)) (hf : SimS cx A l env sc ns (execs fs env) (execSs cx.T Φ f)) :
    SimS cx A l env sc ns (exec (.If x ts fs pos) env) (execS cx.T Φ (.ite c t f)) := by
  intro Γ H ρ s R e0 fr
  refine SimSK.to (SimSAt.bindK (K := fun b Q E s => if b = true then wpAny (model cx.prog cx.w) A (execs ts env) Q E s else wpAny (model cx.prog cx.w) A (execs fs env) Q E s) e0 ((eok G c x env sc ns Γ hm ha e0.len).tru H ρ s R ⟨e0, fr⟩) ?_ ?_ fun Q E h => wpAny_If h)
  · intro b b' H1 ρ1 s1 _ F1 R1 e1 hb
    have hb' : b' = b := hb
    refine hb' ▸ ?_
    cases b' with
    | true => exact (SimSK.of (ht Γ H1 ρ1 s1 R1 e1 (fr.full F1))).mono fun Q E h => h
    | false => exact (SimSK.of (hf Γ H1 ρ1 s1 R1 e1 (fr.full F1))).mono fun Q E h => by simpa using h
  · intro b Q E Q' E' s h k1 k2
    cases b
    · simp only [Bool.false_eq_true, if_false] at h ⊢; exact wpAny_mono h k1 k2
    · simp only [if_true] at h ⊢; exact wpAny_mono h k1 k2
set_option maxHeartbeats 4000000 in
mutual
theorem sok (G : Ground cx N A Φ (env :: l) d) (FC : FunsC cx Φ d) (ha : Apart ns) (hef : env.frame = some env.locals) : ∀ (m : MS) (st : Stmt), ckS N sc ns m st = true → SimS cx A (env :: l) env sc ns (exec st env) (execS cx.T Φ m)
  | .expr e, st, h => by
    obtain ⟨t, h⟩ := seen_of h
    rw [t.2]
    exact sim_expr G ha (an1 h) (an2 h)
  | .assign i e, st, h => by
    obtain ⟨t, h⟩ := seen_of h
    rw [t.2]
    exact sim_assign G ha (an1 h) (an2 h)
  | .setattr o n e, st, h => by
    obtain ⟨t, h⟩ := seen_of h
    rw [t.2]
    exact sim_setattr G ha (an1 (an1 h)) (an2 (an1 h)) (an2 h)
  | .setitem o i e, st, h => by
    obtain ⟨t, h⟩ := seen_of h
    rw [t.2]
    exact sim_setitem G ha (an1 (an1 h)) (an2 (an1 h)) (an2 h)
  | .ret e, st, h => by
    obtain ⟨t, h⟩ := seen_of h
    rw [t.2]
    exact sim_ret G ha h
  | .ite c t f, st, h => by
    obtain ⟨p, h⟩ := seen_of h
    rw [p.2]
    exact sim_ite G ha (an1 (an1 h)) (soks G FC ha hef t p.1.2.1 (an2 (an1 h))) (soks G FC ha hef f p.1.2.2.1 (an2 h))
  | .each i it b, st, h => by
    obtain ⟨t, h⟩ := seen_of h
    rw [t.2]
    exact sim_each G.room.hh G.frames ha (an1 (an1 (an1 h))) (an2 (an1 h)) (fun Γ hΓ => eok G it t.1.2.2.1 env sc ns Γ (an2 (an1 (an1 h))) ha hΓ) (soks G FC ha hef b t.1.2.2.2.1 (an2 h))
  | .eachZip i j a b body, st, h => by
    obtain ⟨t, h⟩ := seen_of h
    rw [t.2]
    obtain ⟨u, h4⟩ := seen_of (an2 h)
    rw [u.2]
    exact sim_eachZip G.base G.room.hh G.frames ha (an1 (an1 (an1 h))) (an2 (an1 (an1 h))) (an1 (an1 (an1 h4))) (of_decide_eq_true (an2 (an1 (an1 h4)))) (ck_notStar (an2 (an1 h4))) (ck_notStar (an2 h4)) (fun Γ hΓ => eok G a u.1.2.2.1 env sc ns Γ (an2 (an1 h4)) ha hΓ) (fun Γ hΓ => eok G b u.1.2.2.2.1 env sc ns Γ (an2 h4) ha hΓ) (soks G FC ha hef body t.1.2.2.1 (an2 (an1 h)))
  | .eachEnum i j a body, st, h => by
    obtain ⟨t, h⟩ := seen_of h
    rw [t.2]
    obtain ⟨u, h4⟩ := seen_of (an2 h)
    rw [u.2]
    exact sim_eachEnum G.base G.room.hh G.frames ha (an1 (an1 (an1 h))) (an2 (an1 (an1 h))) (an1 (an1 h4)) (of_decide_eq_true (an2 (an1 h4))) (ck_notStar (an2 h4)) (fun Γ hΓ => eok G a u.1.2.2.1 env sc ns Γ (an2 h4) ha hΓ) (soks G FC ha hef body t.1.2.2.1 (an2 (an1 h)))
  | .raise c msg, st, h => by
    obtain ⟨t, h⟩ := seen_of h
    rw [t.2]
    have e := of_decide_eq_true (an2 (an1 h))
    have hk := an2 h
    rw [e] at hk ⊢
    exact sim_raise G ha (an1 (an1 (an1 h))) (an2 (an1 (an1 h))) hk
  | .tryx b hs, st, h => by
    obtain ⟨t, h⟩ := seen_of h
    rw [t.2]
    exact sim_try G FC ha hef (soks G FC ha hef b t.1.1 (an1 h)) (an2 h)
theorem soks (G : Ground cx N A Φ (env :: l) d) (FC : FunsC cx Φ d) (ha : Apart ns) (hef : env.frame = some env.locals) : ∀ (m : MSs) (sts : List Stmt), ckSs N sc ns m sts = true → SimS cx A (env :: l) env sc ns (execs sts env) (execSs cx.T Φ m)
  | .nil, [], _ => by
    intro Γ H ρ s R e0 fr
    exact wpAny_execs_nil ⟨rfl, ρ, FullS.refl _ _ _, R, e0⟩
  | .nil, _ :: _, h => by cases (show false = true from h)
  | .cons _ _, [], h => by cases (show false = true from h)
  | .cons m ms, st :: sts, h => by
    have h := And.intro (an1 h) (an2 h)
    intro Γ H ρ s R e0 fr
    exact sim_then e0 fr (sok G FC ha hef m st h.1 Γ H ρ s R e0 fr) (soks G FC ha hef ms sts h.2)
end
theorem body_ok {d : Nat} (B : Base cx N) (defs : ∀ (f : Nat) (a : Addr), cx.fns[f]? = some a → ∃ g, cx.T.funs[f]? = some g) {Φ : Funs} (hΦ : FunsOk cx Φ d) (FC : FunsC cx Φ d) : BodyOk cx N Φ d :=
  fun body stmts env sc ns A l hck ha room hfr hef => soks (Φ := Φ) ⟨B, room, hfr, hΦ, defs⟩ FC ha hef body stmts hck
theorem funs_ok (B : Base cx N) (defs : ∀ (f : Nat) (a : Addr), cx.fns[f]? = some a → ∃ g, cx.T.funs[f]? = some g) : ∀ d, FunsOk cx (callF cx.T d) d
  | 0 => fun k a args vals A l _ _ _ H ρ s R p => trivial
  | d + 1 => FunsOk.step B (body_ok B defs (funs_ok B defs d) (funsC_ok B defs d))
end
end Mine
-- part MHead
namespace Mine
open PySem PySem.W.X
noncomputable def isNoneV : Value → Bool
  | .none => true
  | _ => false
noncomputable def sameB (a b : Value) : Bool := decide (a = b)
theorem sameB_eq {a b : Value} (h : sameB a b = true) : a = b := of_decide_eq_true h
noncomputable def intOf : Value → Option Int
  | .int b _ => some b
  | _ => none
theorem intOf_eq {w : Value} {a : Int} (h : intOf w = some a) : ∃ t, w = .int a t := by
  cases w with
  | int b t => cases h; exact ⟨t, rfl⟩
  | _ => cases h
noncomputable def strOf : Value → Option Str
  | .str b _ => some b
  | _ => none
theorem strOf_eq {w : Value} {a : Str} (h : strOf w = some a) : ∃ t, w = .str a t := by
  cases w with
  | str b t => cases h; exact ⟨t, rfl⟩
  | _ => cases h
noncomputable def litOk (v : Val) (w : Value) : Bool := match v with
  | .int a => decide (intOf w = some a)
  | .str a => decide (strOf w = some a) && decide (a.length ≤ 1000)
  | _ => false
theorem litOk_vr {cx : Cx} {ρ : Rho} {h : Heap} {v : Val} {w : Value} (x : litOk v w = true) : VR cx ρ h v w := by
  cases v with
  | int a =>
    obtain ⟨t, hr0⟩ := intOf_eq (of_decide_eq_true x); refine Eq.symm hr0 ▸ ?_
    exact .int _ _
  | str a =>
    have x : (decide (strOf w = some a) && decide (a.length ≤ 1000)) = true := x
    obtain ⟨t, hr1⟩ := strOf_eq (of_decide_eq_true (an1 x)); refine Eq.symm hr1 ▸ ?_
    exact .str _ _ (Nat.le_trans (of_decide_eq_true (an2 x)) (by skip; decide))
  | _ => cases x
noncomputable def codeOk (t : Addr → Option Obj) (c : Value) (q : Str) : Bool := match c with
  | .ref a => (match t a with
    | some o => (match o.data with
      | .fields vs => (match (vs[1]? : Option Value) with
        | some (.str x _) => decide (x = q)
        | _ => false)
      | _ => false)
    | none => false)
  | _ => false
noncomputable def fnAt (N : Names) (t : Addr → Option Obj) (a : Nat) (f : MFun) (ns : List Str) : Bool := match t a with
  | some o => (match o.data with
    | .func fd => (match fd.body with
      | .stmts body => ckF N f ns fd.params body fd.scope && fd.closure.isEmpty && Nat.beq fd.globals mainGlobals && Nat.beq fd.builtins builtinsNs && isNoneV fd.defaults && isNoneV fd.kwdefaults && codeOk t fd.code fd.qualname && sameB o.cls (.type "function")
      | _ => false)
    | _ => false)
  | none => false
noncomputable def fnsAt (N : Names) (t : Addr → Option Obj) : List Addr → List MFun → List (List Str) → Bool
  | [], [], [] => true
  | a :: as, f :: fs, ns :: nss => fnAt N t a f ns && fnsAt N t as fs nss
  | _, _, _ => false
noncomputable def topOk (es : Array DictEntry) (N : Names) (T : Tab) (cls : List Value) (fns : List Addr) : Bool :=
  (N.funs.all fun p => match fns[p.2]?, nsFind es p.1 with
    | some a, some v => sameB (.ref a) v
    | _, _ => false) &&
  (N.globs.all fun p => match T.globs[p.2]?, nsFind es p.1 with
    | some m, some v => litOk m v
    | _, _ => false) &&
  (N.clss.all fun p => match cls[p.2]?, nsFind es p.1 with
    | some c, some v => sameB c v
    | some c, none => (match bootBuiltins p.1 with
      | some v => sameB c v && !decide (p.1 = ("__name__" : Str))
      | none => false)
    | _, _ => false) &&
  (bltTab.all fun p => (nsFind es p.1).isNone && !decide (p.1 = ("__name__" : Str)) && (match bootBuiltins p.1 with
    | some v => sameB p.2 v
    | none => false))
noncomputable def isFn (t : Addr → Option Obj) (a : Nat) : Bool := match t a with
  | some o => sameB o.cls (.type "function") && (match o.data with
    | .func _ => true
    | _ => false)
  | none => false
noncomputable def strKey (v : Value) : Bool := match v with
  | .str _ _ => true
  | _ => false
noncomputable def newSlot (o : Option Value) : Bool := match o with
  | some v => sameB v (.builtin "object.__new__")
  | none => false
noncomputable def noObj (y : Str) : Bool := match fastLookup "object" y with
  | some none => true
  | _ => false
noncomputable def anyObj (y : Str) : Bool := (fastLookup "object" y).isSome
noncomputable def nsCls (t : Addr → Option Obj) (N : Names) (T : Tab) (attrs : List Str) (fns : List Addr) (c : Nat) (es : Array DictEntry) : Bool :=
  (es.toList.all fun e => strKey e.key) && (nsFind es "__getattribute__").isNone && (nsFind es "__getattr__").isNone && (nsFind es "__setattr__").isNone &&
  (attrs.all fun y => (nsFind es y).isNone && noObj y) &&
  (N.meths.all fun p => match T.meth c p.2 with
    | none => true
    | some k => (match fns[k]?, nsFind es p.1 with
      | some fa, some v => sameB (.ref fa) v && isFn t fa && !(attrs.contains p.1) && anyObj p.1
      | _, _ => false))
noncomputable def slots6 (l : List (Option Value)) : Option { p : Option Value × Option Value × Option Value × Option Value × Option Value × Option Value // l = [p.1, p.2.1, p.2.2.1, p.2.2.2.1, p.2.2.2.2.1, p.2.2.2.2.2] } := match l with
  | [a, b, c, d, e, f] => some ⟨(a, b, c, d, e, f), rfl⟩
  | _ => none
noncomputable def clsAt (t : Addr → Option Obj) (N : Names) (T : Tab) (attrs : List Str) (fns : List Addr) (c : Nat) (v : Value) : Bool := match v with
  | .ref C => (match t C with
    | some o => (match o.data with
      | .cls cd => sameB o.cls (.type "type") && decide (cd.mro = [.ref C, .type "object"]) && cd.hasDict && !cd.abstract && !cd.hasDel && (match slots6 o.slots.toList with
        | some ⟨p, _⟩ => newSlot p.2.2.2.2.1
        | none => false) && (match t cd.ns with
        | some on => (match on.data with
          | .dict es _ => nsCls t N T attrs fns c es
          | _ => false)
        | none => false)
      | _ => false)
    | none => false)
  | _ => false
noncomputable def clssAt (t : Addr → Option Obj) (N : Names) (T : Tab) (attrs : List Str) (fns : List Addr) : Nat → List Value → Bool
  | _, [] => true
  | c, v :: vs => ((T.meth c 0).isNone || clsAt t N T attrs fns c v) && clssAt t N T attrs fns (c + 1) vs
noncomputable def attrsOk (N : Names) (attrs : List Str) : Bool :=
  (N.attrs.all fun p => match attrs[p.2]? with
    | some y => decide (y = p.1)
    | none => false) && nodupS (attrs.map some) && decide (attrs.length ≤ 1000) && hasNo N.meths "__init__" 0
noncomputable def headOk (t : Addr → Option Obj) (N : Names) (T : Tab) (cls : List Value) (fns : List Addr) (nss : List (List Str)) : Bool :=
  (match t mainGlobals with
   | some o => (match o.data with
     | .dict es _ => topOk es N T cls fns
     | _ => false)
   | none => false) && fnsAt N t fns T.funs nss
noncomputable def Has (h : Heap) (t : Addr → Option Obj) : Prop := ∀ a o, t a = some o → h.get? a = some o
theorem kt_get {h : Heap} {t : Addr → Option Obj} (Z : Has h t) {a : Nat} {o : Obj} (e : t a = some o) : h.get? a = some o := Z a o e
set_option tactic.hygienic true in
theorem codeOk_rec {h : Heap} {t : Addr → Option Obj} (Z : Has h t) {c : Value} {q : Str} (x : codeOk t c q = true) : h.CodeRec c q := by
  unfold codeOk at x
  split at x
  · split at x
    · rename_i o e
      split at x
      · rename_i vs hd
        split at x
        · rename_i y tk hv
          rw [← of_decide_eq_true x]
          exact ⟨_, o, vs, tk, rfl, kt_get Z e, hd, hv⟩
        · cases x
      · cases x
    · cases x
  · cases x
set_option tactic.hygienic true in
theorem fnAt_ok {cx : Cx} {N : Names} {t : Addr → Option Obj} (Z : Has cx.h₀ t) {a : Nat} {f : MFun} {ns : List Str} (x : fnAt N t a f ns = true) : FnOk cx N a f := by
  unfold fnAt at x
  split at x
  · rename_i o e
    split at x
    · rename_i fd hd
      split at x
      · rename_i body hb
        simp only [Bool.and_eq_true] at x
        obtain ⟨⟨⟨⟨⟨⟨⟨x1, x2⟩, x3⟩, x4⟩, x5⟩, x6⟩, x7⟩, x8⟩ := x
        have none_of : ∀ {v : Value}, isNoneV v = true → v = .none := fun {v} h => by cases v <;> first | rfl | cases h
        exact ⟨o, fd, body, ns, kt_get Z e, sameB_eq x8, hd, codeOk_rec Z x7, hb, List.isEmpty_iff.mp x2, Nat.eq_of_beq_eq_true x3, Nat.eq_of_beq_eq_true x4, none_of x5, none_of x6, x1⟩
      · cases x
    · cases x
  · cases x
theorem fnsAt_get {N : Names} {t : Addr → Option Obj} : ∀ {fns : List Addr} {fs : List MFun} {nss : List (List Str)}, fnsAt N t fns fs nss = true → fns.length = fs.length ∧ ∀ (k : Nat) (a : Addr) (f : MFun), fns[k]? = some a → fs[k]? = some f → ∃ ns, fnAt N t a f ns = true
  | [], [], [], _ => ⟨rfl, fun k a f h _ => by simp at h⟩
  | a :: as, f :: fs, ns :: nss, h => by
    have h := And.intro (an1 h) (an2 h)
    obtain ⟨l, r⟩ := fnsAt_get h.2
    refine ⟨by simp [l], fun k b g h1 h2 => ?_⟩
    cases k with
    | zero => simp at h1 h2; subst h1 h2; exact ⟨ns, h.1⟩
    | succ k => exact r k b g (by simpa using h1) (by simpa using h2)
  | [], [], _ :: _, h => by cases (show false = true from h)
  | [], _ :: _, _, h => by cases (show false = true from h)
  | _ :: _, [], _, h => by cases (show false = true from h)
  | _ :: _, _ :: _, [], h => by cases (show false = true from h)
set_option tactic.hygienic true in
theorem noObj_eq {y : Str} (h : noObj y = true) : typeLookup (.type "object") y = pure none := by
  unfold noObj at h
  rw [typeLookup_type, builtinLookup_eq_fast]
  split at h
  · rename_i e; rw [e]
  · cases h
theorem anyObj_eq {y : Str} (h : anyObj y = true) : ∃ r, typeLookup (.type "object") y = pure r := by
  obtain ⟨r, e⟩ := Option.isSome_iff_exists.mp h
  exact ⟨r, by rw [typeLookup_type, builtinLookup_eq_fast, e]⟩
set_option tactic.hygienic true in
theorem isFn_eq {h : Heap} {t : Addr → Option Obj} (Z : Has h t) {a : Nat} (x : isFn t a = true) : ∃ o fd, h.get? a = some o ∧ o.cls = .type "function" ∧ o.data = .func fd := by
  unfold isFn at x
  split at x
  · rename_i o e
    rw [Bool.and_eq_true] at x
    obtain ⟨x1, x2⟩ := x
    split at x2
    · rename_i fd hd
      exact ⟨o, fd, kt_get Z e, sameB_eq x1, hd⟩
    · cases x2
  · cases x
theorem obj_is {o : Obj} {cd : ClassData} {C : Addr} {bm : List Value} {k0 k1 k2 k3 k5 : Option Value} {nw : String} (x1 : o.cls = .type "type") (hd : o.data = .cls cd) (x2 : cd.mro = .ref C :: bm) (x5 : cd.hasDel = false) (hp : o.slots.toList = [k0, k1, k2, k3, some (.builtin nw), k5]) :
    o = excClassObj cd.name cd.qualname C cd.ns cd.bases bm cd.hasDict cd.slotNames cd.subclasses cd.abstract cd.collection o.dict k0 k1 k2 k3 k5 nw := by
  obtain ⟨oc, od, odata, oslots⟩ := o
  obtain ⟨cn, cb, cm, cns, cq, chd, csn, csub, cab, ccol, cdel⟩ := cd
  cases x1; cases hd; cases x2; cases x5
  exact congrArg _ (Array.toList_inj.mp hp)
set_option tactic.hygienic true in
theorem clsAt_ok {cx : Cx} {N : Names} {t : Addr → Option Obj} (Z : Has cx.h₀ t) {c : Nat} {v : Value} (x : clsAt t N cx.T cx.attrs cx.fns c v = true) : ∃ C, v = .ref C ∧ ClsOk cx N c C := by
  unfold clsAt at x
  split at x
  · rename_i C
    refine ⟨C, rfl, ?_⟩
    split at x
    · rename_i o e
      split at x
      · rename_i cd hd
        simp only [Bool.and_eq_true, Bool.not_eq_true', decide_eq_true_eq] at x
        obtain ⟨⟨⟨⟨⟨⟨x1, x2⟩, x3⟩, x4⟩, x5⟩, x6⟩, x7⟩ := x
        split at x6
        · rename_i p hp hs
          split at x7
          · rename_i on en
            split at x7
            · rename_i es ep hes
              unfold nsCls at x7
              simp only [Bool.and_eq_true, Option.isNone_iff_eq_none] at x7
              refine hideG fun G kG => ?_
              obtain ⟨⟨⟨⟨⟨y1, y2⟩, y3⟩, y4⟩, y5⟩, y6⟩ := x7
              have hslot : p.2.2.2.2.1 = some (.builtin "object.__new__") := by
                unfold newSlot at x6
                split at x6
                · rename_i w hw; rw [hw, sameB_eq x6]
                · exact nomatch x6
              obtain ⟨k0, k1, k2, k3, k4, k5⟩ := p
              refine kG ?_
              dsimp only at hslot hp
              subst hslot
              have ho := obj_is (sameB_eq x1) hd x2 x5 hp
              rw [x3, x4] at ho
              refine ⟨cd.name, cd.qualname, cd.ns, cd.bases, cd.slotNames, cd.subclasses, cd.collection, o.dict, k0, k1, k2, k3, k5, fun z => nsFind es z, by rw [← ho]; exact kt_get Z e, ⟨on, es, ep, kt_get Z en, hes, ?_, fun _ => rfl⟩, y2, y3, y4, ?_, ?_⟩
              · intro en hen
                have := List.all_eq_true.mp y1 en (Array.mem_toList_iff.mpr hen)
                unfold strKey at this
                split at this
                · rename_i a b hk; exact ⟨a, b, hk⟩
                · exact nomatch this
              · intro n z hz
                have := List.all_eq_true.mp y5 z (List.mem_of_getElem? hz)
                simp only [Bool.and_eq_true, Option.isNone_iff_eq_none] at this
                exact ⟨this.1, noObj_eq this.2⟩
              · intro z m k hz hk
                have := List.all_eq_true.mp y6 (z, m) (mem_of_lookup hz)
                dsimp only at this
                rw [hk] at this
                dsimp only at this
                split at this
                · rename_i fa w hfa hw
                  simp only [Bool.and_eq_true, Bool.not_eq_true'] at this
                  refine hideG fun G kG => ?_
                  obtain ⟨⟨⟨z1, z2⟩, z3⟩, z4⟩ := this
                  refine ex2 (isFn_eq Z z2) fun fo fd zz => aNd3 zz fun f1 f2 f3 => ?_
                  refine kG ?_
                  refine ⟨fa, fo, fd, hfa, by show nsFind es z = _; rw [hw, ← sameB_eq z1], f1, f2, f3, fun n hn => ?_, anyObj_eq z4⟩
                  rw [List.contains_eq_mem, decide_eq_false_iff_not] at z3
                  exact z3 (List.mem_of_getElem? hn)
                · exact nomatch this
            · cases x7
          · cases x7
        · cases x6
      · cases x
    · cases x
  · cases x
theorem clssAt_get {N : Names} {T : Tab} {t : Addr → Option Obj} {attrs : List Str} {fns : List Addr} : ∀ {l : List Value} {c i : Nat} {v : Value}, clssAt t N T attrs fns c l = true → l[i]? = some v → (T.meth (c + i) 0).isSome = true → clsAt t N T attrs fns (c + i) v = true
  | [], _, i, _, _, h, _ => by simp at h
  | w :: ws, c, i, v, x, h, hm => by
    have x := And.intro (Bool.or_eq_true _ _ |>.mp (an1 x)) (an2 x)
    cases i with
    | zero =>
      simp at h; subst h
      rcases x.1 with q | q
      · rw [Nat.add_zero, Option.isSome_iff_ne_none] at hm
        exact absurd (Option.isNone_iff_eq_none.mp q) hm
      · exact q
    | succ i =>
      have e : c + (i + 1) = c + 1 + i := by exact o153
      rw [e] at hm ⊢
      exact clssAt_get x.2 (by simpa using h) hm
set_option tactic.hygienic true in
theorem clsBase_of {cx : Cx} {N : Names} {t : Addr → Option Obj} (Z : Has cx.h₀ t) (h1 : clssAt t N cx.T cx.attrs cx.fns 0 cx.cls = true) (h2 : attrsOk N cx.attrs = true) : ClsBase cx N := by
  unfold attrsOk at h2
  simp only [Bool.and_eq_true, decide_eq_true_eq] at h2
  obtain ⟨⟨⟨a1, a2⟩, a3⟩, a4⟩ := h2
  have get : ∀ (c : Nat) (v : Value), cx.cls[c]? = some v → (cx.T.meth c 0).isSome = true → ∃ C, v = .ref C ∧ ClsOk cx N c C := fun c v hc hm => by
    have := clssAt_get h1 hc (by rw [Nat.zero_add]; exact hm)
    rw [Nat.zero_add] at this
    exact clsAt_ok Z this
  refine ⟨fun y n h => ?_, fun i j y hi hj => ?_, by rw [sizeLine_eq]; exact o19 a3, hasNo_eq a4, fun c v hc hm => ?_, fun c C hc hm => ?_⟩
  · have := List.all_eq_true.mp a1 (y, n) (mem_of_lookup h)
    dsimp only at this
    split at this
    · rename_i z hz; rw [hz, of_decide_eq_true this]
    · cases this
  · exact nodupS_inj a2 i j y (by rw [List.getElem?_map, hi]; rfl) (by rw [List.getElem?_map, hj]; rfl)
  · refine ex1 (get c v hc hm) fun C zz => aNd2 zz fun e _ => ?_
    exact ⟨C, e⟩
  · refine ex1 (get c (.ref C) hc hm) fun C' zz => aNd2 zz fun e k => ?_
    cases e; exact k
noncomputable def fragOf (t : Addr → Option Obj) : List Addr → PySem.W.Frag
  | [] => []
  | a :: as => match t a with
    | some o => (a, o) :: fragOf t as
    | none => fragOf t as
set_option tactic.hygienic true in
theorem frag_in {h : Heap} {t : Addr → Option Obj} (Z : Has h t) : ∀ as, (fragOf t as).In h
  | [] => fun a o e => by cases e
  | a :: as => fun b o e => by
    have e : (match t a with | some o => (a, o) :: fragOf t as | none => fragOf t as).lookup b = some o := e
    split at e
    · rename_i o' ho
      simp only [List.lookup] at e
      split at e
      · rename_i q; cases e; rw [beq_iff_eq.mp q]; exact kt_get Z ho
      · exact frag_in Z as b o e
    · exact frag_in Z as b o e
noncomputable def clsPair (t : Addr → Option Obj) (v : Value) : List Addr := match v with
  | .ref a => (match t a with
    | some o => (match o.data with
      | .cls cd => [a, cd.ns]
      | _ => [])
    | none => [])
  | _ => []
noncomputable def nsNoInit (t : Addr → Option Obj) (a : Addr) : Bool := match t a with
  | some on => (match on.data with
    | .dict es _ => (es.toList.all fun e => strKey e.key) && (nsFind es "__init__").isNone
    | _ => false)
  | none => false
set_option tactic.hygienic true in
theorem nsNoInit_ok {h : Heap} {t : Addr → Option Obj} (Z : Has h t) {a : Addr} (x : nsNoInit t a = true) : ∃ m, h.Ns a m ∧ m "__init__" = none := by
  unfold nsNoInit at x
  split at x
  · rename_i on en
    split at x
    · rename_i es ep hes
      rw [Bool.and_eq_true] at x
      refine ⟨fun z => nsFind es z, ⟨on, es, ep, kt_get Z en, hes, fun e he => ?_, fun _ => rfl⟩, Option.isNone_iff_eq_none.mp x.2⟩
      have := List.all_eq_true.mp x.1 e (Array.mem_toList_iff.mpr he)
      unfold strKey at this
      split at this
      · rename_i a b hk; exact ⟨a, b, hk⟩
      · cases this
    · cases x
  · cases x
noncomputable def ownNo (t : Addr → Option Obj) (v : Value) : Bool := match v with
  | .ref a => (match t a with
    | some o => (match o.data with
      | .cls cd => nsNoInit t cd.ns
      | _ => false)
    | none => false)
  | _ => false
set_option tactic.hygienic true in
theorem ownNo_ok {h : Heap} {t : Addr → Option Obj} (Z : Has h t) {v : Value} {bm tl : List Value} (x : ownNo t v = true) (T : OwnTail h bm tl) : OwnTail h bm (v :: tl) := by
  unfold ownNo at x
  split at x
  · split at x
    · rename_i o e
      split at x
      · rename_i cd hd
        refine ex1 (nsNoInit_ok Z x) fun m zz => aNd2 zz fun n i => ?_
        obtain ⟨oc, od, odata, oslots⟩ := o
        dsimp only at hd
        subst hd
        exact .own (kt_get Z e) n i T
      · cases x
    · cases x
  · cases x
noncomputable def tailOk (t : Addr → Option Obj) : List Value → Bool
  | [] => false
  | v :: vs => decide (v :: vs = mroV) || (ownNo t v && tailOk t vs)
theorem tailOk_ok {h : Heap} {t : Addr → Option Obj} (Z : Has h t) : ∀ {vs : List Value}, tailOk t vs = true → OwnTail h mroV vs
  | [], x => by cases (show false = true from x)
  | v :: vs, x => by
    rcases (Bool.or_eq_true _ _).mp x with q | q
    · rw [of_decide_eq_true q]; exact .base
    · exact ownNo_ok Z (an1 q) (tailOk_ok Z (an2 q))
noncomputable def subsAt (T : Tab) (K : PySem.W.Frag) (C : Addr) (bm : List Value) (c : Nat) : Nat → List Value → Bool
  | _, [] => true
  | d, D :: Ds => (clsVal K D && decide (T.sub c d = (Value.ref C :: bm).contains D) && decide (PySem.W.mroIn K C D = some (T.sub c d))) && subsAt T K C bm c (d + 1) Ds
theorem subsAt_get {T : Tab} {K : PySem.W.Frag} {C : Addr} {bm : List Value} {c : Nat} : ∀ {l : List Value} {d i : Nat} {D : Value}, subsAt T K C bm c d l = true → l[i]? = some D → clsVal K D = true ∧ T.sub c (d + i) = (Value.ref C :: bm).contains D ∧ PySem.W.mroIn K C D = some (T.sub c (d + i))
  | [], _, i, _, _, h => by simp at h
  | w :: ws, d, i, D, x, h => by
    cases i with
    | zero =>
      simp at h; subst h
      have y := an1 x
      exact ⟨an1 (an1 y), of_decide_eq_true (an2 (an1 y)), of_decide_eq_true (an2 y)⟩
    | succ i =>
      have e : d + (i + 1) = d + 1 + i := by exact o153
      rw [e]
      exact subsAt_get (an2 x) (by simpa using h)
noncomputable def excK (K : PySem.W.Frag) (D : Addr) : Bool :=
  decide (PySem.W.findIn K (.ref D) "__getattribute__" = some (some (.builtin "BaseException.__getattribute__"))) && decide (PySem.W.findIn K (.ref D) "__getattr__" = some none) && decide (PySem.W.mroIn K D (.type "BaseException") = some true) &&
  PySem.W.hasDictIn K D && decide (PySem.W.findIn K (.ref D) "__class__" = some (some (.builtin "object.__class__"))) &&
  decide (PySem.W.specialIn K (.builtin "object.__class__") "__get__" = some (some (.builtin "getset_descriptor.__get__"))) && decide (PySem.W.takesIn K (.builtin "object.__class__") = some true) && decide (PySem.W.mroIn K D (.type "object") = some true)
theorem excK_ok {K : PySem.W.Frag} {D : Addr} (x : excK K D = true) : ExcK K D :=
  have x1 := an1 (an1 (an1 (an1 x)))
  ⟨of_decide_eq_true (an1 (an1 (an1 x1))), of_decide_eq_true (an2 (an1 (an1 x1))), of_decide_eq_true (an2 (an1 x1)), an2 x1, of_decide_eq_true (an2 (an1 (an1 (an1 x)))), of_decide_eq_true (an2 (an1 (an1 x))), of_decide_eq_true (an2 (an1 x)), of_decide_eq_true (an2 x)⟩
noncomputable def valNew (o : Option Value) : Bool := match o with
  | some v => sameB v (.builtin "ValueError.__new__")
  | none => false
noncomputable def excAt (t : Addr → Option Obj) (T : Tab) (cls : List Value) (c : Nat) (v : Value) : Bool := match v with
  | .ref C => (match t C with
    | some o => (match o.data with
      | .cls cd => sameB o.cls (.type "type") && decide (cd.mro = .ref C :: cd.mro.tail) && !cd.hasDel && (match slots6 o.slots.toList with
        | some ⟨p, _⟩ => valNew p.2.2.2.2.1
        | none => false) && nsNoInit t cd.ns && tailOk t cd.mro.tail && subsAt T (fragOf t ((cls ++ cd.mro).flatMap (clsPair t))) C cd.mro.tail c 0 cls && excK (fragOf t ((cls ++ cd.mro).flatMap (clsPair t))) C
      | _ => false)
    | none => false)
  | _ => false
noncomputable def excsAt (t : Addr → Option Obj) (T : Tab) (cls : List Value) : Nat → List Value → Bool
  | _, [] => true
  | c, v :: vs => (!T.isExc c || excAt t T cls c v) && excsAt t T cls (c + 1) vs
noncomputable def excsOk (t : Addr → Option Obj) (T : Tab) (cls : List Value) : Bool := excsAt t T cls 0 cls && decide (T.subs.length ≤ cls.length)
set_option tactic.hygienic true in
theorem excAt_ok {cx : Cx} {t : Addr → Option Obj} (Z : Has cx.h₀ t) {c : Nat} {v : Value} (x : excAt t cx.T cx.cls c v = true) : ∃ C, v = .ref C ∧ ExcOk cx c C := by
  unfold excAt at x
  split at x
  · rename_i C
    refine ⟨C, rfl, ?_⟩
    split at x
    · rename_i o e
      split at x
      · rename_i cd hd
        have x8 := excK_ok (an2 x)
        have x7 := an2 (an1 x)
        have x6 := tailOk_ok Z (an2 (an1 (an1 x)))
        refine ex1 (nsNoInit_ok Z (an2 (an1 (an1 (an1 x))))) fun m zz => aNd2 zz fun n i => ?_
        have x4 := an2 (an1 (an1 (an1 (an1 x))))
        have x := an1 (an1 (an1 (an1 (an1 x))))
        have x3 : cd.hasDel = false := (Bool.not_eq_true' _).mp (an2 x)
        have x2 := of_decide_eq_true (an2 (an1 x))
        have x1 := sameB_eq (an1 (an1 x))
        clear x
        split at x4
        · rename_i p hp hs
          have hslot : p.2.2.2.2.1 = some (.builtin "ValueError.__new__") := by
            unfold valNew at x4
            split at x4
            · rename_i w hw; rw [hw, sameB_eq x4]
            · cases x4
          clear x4
          obtain ⟨k0, k1, k2, k3, k4, k5⟩ := p
          dsimp only at hslot hp
          subst hslot
          have ho := obj_is x1 hd x2 x3 hp
          refine ⟨⟨cd.name, cd.qualname, cd.ns, cd.bases, cd.mro.tail, cd.hasDict, cd.slotNames, cd.subclasses, cd.abstract, cd.collection, o.dict, k0, k1, k2, k3, k5, m, by rw [← ho]; exact kt_get Z e, n, i, x6, fun d D hD => ?_⟩, ⟨_, frag_in Z _, x8, fun d D hD => ?_⟩⟩
          · have := (subsAt_get x7 hD).2.1
            rwa [Nat.zero_add] at this
          · have := subsAt_get x7 hD
            rw [Nat.zero_add] at this
            exact ⟨this.1, this.2.2⟩
        · cases x4
      · cases x
    · cases x
  · cases x
theorem excsAt_get {t : Addr → Option Obj} {T : Tab} {cls : List Value} : ∀ {l : List Value} {c i : Nat} {v : Value}, excsAt t T cls c l = true → l[i]? = some v → T.isExc (c + i) = true → excAt t T cls (c + i) v = true
  | [], _, i, _, _, h, _ => by simp at h
  | w :: ws, c, i, v, x, h, hm => by
    cases i with
    | zero =>
      simp at h; subst h
      rcases (Bool.or_eq_true _ _).mp (an1 x) with q | q
      · have hm : T.isExc c = true := hm
        rw [hm] at q; exact nomatch q
      · exact q
    | succ i =>
      have e : c + (i + 1) = c + 1 + i := by exact o153
      rw [e] at hm ⊢
      exact excsAt_get (an2 x) (by simpa using h) hm
theorem isExc_lt {T : Tab} {c : Nat} (h : T.isExc c = true) : c < T.subs.length := by
  have h : 2 ≤ ((T.subs[c]?).getD []).length := of_decide_eq_true (an2 h)
  cases q : T.subs[c]? with
  | none => rw [q] at h; cases (show 2 ≤ 0 from h)
  | some l => exact (List.getElem?_eq_some_iff.mp q).1
theorem excs_base {cx : Cx} {t : Addr → Option Obj} (Z : Has cx.h₀ t) (x : excsOk t cx.T cx.cls = true) (c : Nat) (h : cx.T.isExc c = true) : ∃ C, cx.cls[c]? = some (.ref C) ∧ ExcOk cx c C := by
  have lt : c < cx.cls.length := Nat.lt_of_lt_of_le (isExc_lt h) (of_decide_eq_true (an2 x))
  have e := List.getElem?_eq_getElem lt
  have y := excsAt_get (an1 x) e (by rw [Nat.zero_add]; exact h)
  rw [Nat.zero_add] at y
  refine ex1 (excAt_ok Z y) fun C zz => aNd2 zz fun q k => ?_
  exact ⟨C, by rw [e, q], k⟩
theorem lookup_all {α : Type} {l : List (Str × α)} {p : Str × α → Bool} (h : l.all p = true) {x : Str} {k : α} (e : l.lookup x = some k) : p (x, k) = true := List.all_eq_true.mp h _ (mem_of_lookup e)
set_option tactic.hygienic true in
theorem base_of {cx : Cx} {N : Names} {t : Addr → Option Obj} {nss : List (List Str)} {mg mb : Str → Option Value} (Z : Has cx.h₀ t) (g : cx.h₀.Ns mainGlobals mg) (b : cx.h₀.Ns builtinsNs mb) (hb : ∀ x : Str, x ≠ "__name__" → mb x = bootBuiltins x) (lim : cx.h₀.NoLimit)
    (ok : headOk t N cx.T cx.cls cx.fns nss = true) (okc : clssAt t N cx.T cx.attrs cx.fns 0 cx.cls = true) (oka : attrsOk N cx.attrs = true) (okx : excsOk t cx.T cx.cls = true) : Base cx N ∧ ∀ (f : Nat) (a : Addr), cx.fns[f]? = some a → ∃ g, cx.T.funs[f]? = some g := by
  unfold headOk at ok
  rw [Bool.and_eq_true] at ok
  obtain ⟨ok1, ok2⟩ := ok
  obtain ⟨hlen, hfn⟩ := fnsAt_get ok2
  refine ⟨⟨⟨mg, mb, g, b, ?_⟩, lim, fun k a f h1 h2 => ?_, clsBase_of Z okc oka, excs_base Z okx⟩, fun f a h => ?_⟩
  · split at ok1
    · rename_i o e
      split at ok1
      · rename_i es ep hd
        have hmg : ∀ x, mg x = nsFind es x := by
          refine hideG fun G kG => ?_
          refine ex3 g fun o' es' ep' zz => aNd4 zz fun e' d' _ h' => ?_
          refine kG ?_
          rw [kt_get Z e] at e'; cases e'
          rw [hd] at d'; cases d'
          exact fun x => (h' x).symm
        unfold topOk at ok1
        simp only [Bool.and_eq_true] at ok1
        refine hideG fun G kG => ?_
        obtain ⟨⟨⟨c1, c2⟩, c3⟩, c4⟩ := ok1
        refine kG ?_
        refine ⟨fun x k h => ?_, fun x k h => ?_, fun x c h => ?_, fun p hp => ?_⟩
        · have := lookup_all c1 h
          simp only at this
          split at this
          · rename_i a v h1 h2
            exact ⟨a, h1, by rw [hmg, h2, ← sameB_eq this]⟩
          · exact nomatch this
        · have := lookup_all c2 h
          simp only at this
          split at this
          · rename_i m v h1 h2
            exact ⟨m, v, h1, by rw [hmg, h2], fun ρ h => litOk_vr this⟩
          · exact nomatch this
        · have := lookup_all c3 h
          simp only at this
          split at this
          · rename_i c' v h1 h2
            exact ⟨c', h1, .inl (by rw [hmg, h2, ← sameB_eq this])⟩
          · rename_i c' h1 h2
            split at this
            · rename_i v h3
              simp only [Bool.and_eq_true, Bool.not_eq_true', decide_eq_false_iff_not] at this
              exact ⟨c', h1, .inr ⟨by rw [hmg, h2], by rw [hb _ this.2, h3, ← sameB_eq this.1]⟩⟩
            · exact nomatch this
          · exact nomatch this
        · have := List.all_eq_true.mp c4 p hp
          simp only [Bool.and_eq_true, Option.isNone_iff_eq_none, Bool.not_eq_true', decide_eq_false_iff_not] at this
          obtain ⟨⟨h1, h2⟩, h3⟩ := this
          split at h3
          · rename_i v h4
            exact ⟨by rw [hmg, h1], by rw [hb _ h2, h4, ← sameB_eq h3]⟩
          · exact nomatch h3
      · exact nomatch ok1
    · exact nomatch ok1
  · obtain ⟨ns, h⟩ := hfn k a f h1 h2
    exact fnAt_ok Z h
  · have lt : f < cx.T.funs.length := by rw [← hlen]; exact (List.getElem?_eq_some_iff.mp h).1
    exact ⟨_, List.getElem?_eq_getElem lt⟩
theorem ns_same {h : Heap} {a : Addr} {m m' : Str → Option Value} (x : h.Ns a m) (y : h.Ns a m') (n : Str) : m n = m' n := by
  refine hideG fun G kG => ?_
  refine ex3 x fun o es ep zz => aNd4 zz fun e d _ f => ?_
  refine ex3 y fun o' es' ep' zz => aNd4 zz fun e' d' _ f' => ?_
  refine kG ?_
  rw [e] at e'; cases e'
  rw [d] at d'; cases d'
  rw [← f n, f' n]
theorem vrs_script {cx : Cx} {ρ : Rho} {h : Heap} {vs : List Value} {ns : List Int} (x : PyProof.Rows.IntsAre vs ns) : VRs cx ρ h (ns.map .int) vs := by
  induction x with
  | nil => exact .nil
  | cons n tk r ih => exact .cons (.int n tk) ih
theorem finish {prog : Program} {w : World} {N : Names} {t : Addr → Option Obj} {T : Tab} {cls : List Value} {attrs : List Str} {fns : List Addr} {nss : List (List Str)} {s₁ : Shared} {mg mb : Str → Option Value} {ns : List Int} {vs : List Value} {fa a : Addr} {k d : Nat} {Q : Value → Shared → Prop} {E : Value → Shared → Prop}
    (Z : Has s₁.heap t) (g : s₁.heap.Ns mainGlobals mg) (b : s₁.heap.Ns builtinsNs mb) (hb : ∀ x : Str, x ≠ "__name__" → mb x = bootBuiltins x) (lim : s₁.heap.NoLimit) (ok : headOk t N T cls fns nss = true) (okc : clssAt t N T attrs fns 0 cls = true) (oka : attrsOk N attrs = true) (okx : excsOk t T cls = true) (hsys : (t sysModules).isSome = true)
    (hobj : s₁.heap.get? a = some (listO vs 0)) (hI : PyProof.Rows.IntsAre vs ns) (hlen : ns.length ≤ 63) (hf : mg "law" = some (.ref fa)) (hk : N.funs.lookup ("law" : Str) = some k) (room : Room callerA d)
    (hlaw : ∃ H', callF T d k [.script ns] [] = .ok (.bool true) H')
    (kq : ∀ s', (∀ b o, s₁.heap.get? b = some o → s'.heap.get? b = some o) → s'.os = s₁.os → s'.gens = s₁.gens → Q (.bool true) s') :
    wpAny (model prog w) callerA (call (.ref fa) [.ref a]) Q E s₁ := by
  refine hideG fun G kG => ?_
  obtain ⟨B, defs⟩ := base_of (cx := ⟨prog, w, T, s₁, cls, attrs, fns⟩) (N := N) (nss := nss) Z g b hb lim ok okc oka okx
  refine ex2 B.ns fun mg' mb' zz => aNd4 zz fun g' b' q _ => ?_
  refine ex1 (q "law" k hk) fun a' zz => aNd2 zz fun ha' hx => ?_
  refine kG ?_
  have e : fa = a' := by
    have := ns_same g g' "law"
    rw [hf, hx] at this
    cases this; rfl
  subst e
  obtain ⟨o1, e1⟩ := Option.isSome_iff_exists.mp hsys
  have R : Rel ⟨prog, w, T, s₁, cls, attrs, fns⟩ [] [] s₁ :=
    ⟨rfl, fun l o p h _ => by simp at h, fun i j p q _ h _ => by simp at h, fun p hp => by simp at hp, fun _ _ e => e, ⟨o1, kt_get Z e1⟩, ⟨s₁.heap, s₁.toks, rfl⟩⟩
  obtain ⟨H', hH⟩ := hlaw
  have x := funs_ok B defs d k fa [.script ns] [.ref a] callerA [] ha' room.toF rfl [] [] s₁ R ⟨.cons (.script hobj (by rw [sizeLine_eq]; exact o154 hlen) (vrs_script hI)) .nil, fun en he => by cases he⟩
  change SimAt _ callerA (callF T d k [.script ns] []) _ _ _ _ at x
  rw [hH] at x
  refine wpAny_mono x (fun v s' ⟨ρ', F, R', vr⟩ => ?_) fun _ _ q => q.elim
  have vr' : VR ⟨prog, w, T, s₁, cls, attrs, fns⟩ ρ' s'.heap (.bool true) v := vr
  cases vr'
  refine ex2 R'.rest fun h tk e => ?_
  exact kq s' R'.base (by rw [e]) (by rw [e])
end Mine
-- part MTop
namespace Mine
open PySem PySem.W PySem.Calls
noncomputable def topRunT (tb : String → Option Builtin) (p : Program) (w : World) (n₀ : Nat) (ann : Option Value) : Nat → SharedT → Thread → Option SharedT
  | 0, _, _ => none
  | n + 1, s, t => match through t with
    | true => some s
    | false => match stepOk n₀ ann t with
      | false => none
      | true => match stepT (denote tb) p w s t with
        | some (s', t') => topRunT tb p w n₀ ann n s' t'
        | none => none
theorem topRun_ofT {tb : String → Option Builtin} {p : Program} {w : World} {n₀ : Nat} {ann : Option Value} : ∀ {n : Nat} {s s' : SharedT} {t : Thread}, topRunT tb p w n₀ ann n s t = some s' → topRun tb p w n₀ ann n s.abs t = some s'.abs
  | 0, _, _, _, h => by cases h
  | n + 1, s, s', t, h => by
    unfold topRunT at h
    unfold topRun
    cases ht : through t with
    | true => rw [ht] at h; cases h; rfl
    | false =>
      rw [ht] at h
      cases hk : stepOk n₀ ann t with
      | false => rw [hk] at h; cases h
      | true =>
        rw [hk] at h
        cases hs : stepT (denote tb) p w s t with
        | none => rw [hs] at h; exact nomatch h
        | some r => obtain ⟨s₂, t₂⟩ := r; rw [hs] at h; rw [stepT_spec hs]; exact topRun_ofT h
noncomputable def topRunQ (p : Program) (w : World) (n₀ : Nat) (ann : Option Value) (n : Nat) : SharedT → Thread → Option SharedT :=
  @Nat.rec (fun _ => SharedT → Thread → Option SharedT) (fun _ _ => none) (fun _ ih s t => @Bool.rec (fun _ => Option SharedT)
    (@Bool.rec (fun _ => Option SharedT) none (@Option.rec (SharedT × Thread) (fun _ => Option SharedT) none (fun r => ih r.1 r.2) (PySem.W.Fast.tw10156331382660048174 (PySem.W.Fast.tw11892475500146522536 treeTable) p w s t)) (PySem.W.Fast.tw6613529449190102663 n₀ ann t)) (some s) (through t)) n
theorem topRunQ_eq {p : Program} {w : World} {n₀ : Nat} {ann : Option Value} : ∀ (n : Nat) (s : SharedT) (t : Thread), topRunQ p w n₀ ann n s t = topRunT treeTable p w n₀ ann n s t
  | 0, _, _ => rfl
  | n + 1, s, t => by
    show @Bool.rec (fun _ => Option SharedT) (@Bool.rec (fun _ => Option SharedT) none (@Option.rec (SharedT × Thread) (fun _ => Option SharedT) none (fun r => topRunQ p w n₀ ann n r.1 r.2) (PySem.W.Fast.tw10156331382660048174 (PySem.W.Fast.tw11892475500146522536 treeTable) p w s t)) (PySem.W.Fast.tw6613529449190102663 n₀ ann t)) (some s) (through t) = _
    rw [← PySem.W.Fast.te10156331382660048174, ← PySem.W.Fast.te11892475500146522536, ← PySem.W.Fast.te6613529449190102663]
    unfold topRunT
    cases through t with
    | true => rfl
    | false =>
      cases stepOk n₀ ann t with
      | false => rfl
      | true =>
        cases hs : stepT (denote treeTable) p w s t with
        | none => rfl
        | some r => obtain ⟨s₂, t₂⟩ := r; exact topRunQ_eq n s₂ t₂
noncomputable def bootT (P : Params) : BT := ((boot_heap P).objs.toList.foldl (fun (x : BT × Nat) o => (x.1.ins x.2 o, x.2 + 1)) (.nil, 0)).1
noncomputable def bootS (w : World) (os : OsState) : SharedT := ⟨bootT w.params, (boot_heap w.params).objs.size, (boot_heap w.params).life, #[], boot_drawn, boot_toks, os⟩
theorem boot_size (w : World) : ((boot_heap w.params).isNs mainGlobals && (#[] : Array GenState).size == 0, (boot_heap w.params).objs.size, (boot_heap w.params).nsMap mainGlobals "__annotations__") = (true, 11, some (.ref 6)) := by kernel_rfl
theorem bootS_abs (w : World) (os : OsState) : (bootS w os).abs = ⟨boot_heap w.params, #[], boot_drawn, boot_toks, os⟩ := by kernel_rfl
theorem left_of {p q : Program} {loose : List Str} {Xt : Shared → Bool} {α : Type} {Yf : Shared → α} {Ya : World → α} {N M : Nat} {g0 : Bool}
    (e : opening p = plainProg p.main.scope.names) (hN : Nat.ble 600 N = true) (f : ∀ s, fenceModules? p s = some s) (le : Nat.ble M N = true)
    (run : ∀ (w : World) (os : OsState), (topRunQ p w 11 (some (.ref 6)) M (bootS w os) (topStub p)).map (fun s => (staticsOk (importedModules p.main.body) (boot_heap w.params) s.abs.heap && namesBound p s.abs.heap && gensDone s.abs && laidKept (boot_heap w.params) s.abs.heap,
      openSeen q loose (importedModules p.main.body) Xt g0 s.abs, Yf s.abs)) = some (true, openGood q loose, Ya w)) : LeftO p q loose Xt Yf Ya N g0 := fun w => by
  refine ex1 (Option.map_eq_some_iff.mp (boot_open e hN f w)) fun zn0 zz => aNd2 zz fun e1 e' => ?_; obtain ⟨h, gs, d, k, os⟩ := zn0
  obtain ⟨rfl, rfl, rfl, rfl⟩ : h = boot_heap w.params ∧ gs = #[] ∧ d = boot_drawn ∧ k = boot_toks := by simpa using e'
  obtain ⟨z1, z2, z3⟩ : _ ∧ _ ∧ _ := by simpa only [Prod.mk.injEq] using boot_size w
  refine ex1 (Option.map_eq_some_iff.mp (run w os)) fun s zz => aNd2 zz fun h1 h2 => ?_
  obtain ⟨l1, l2, l3⟩ : _ ∧ _ ∧ _ := by simpa only [Prod.mk.injEq] using h2
  rw [topRunQ_eq] at h1
  have r := topRun_ofT h1
  rw [bootS_abs] at r
  replace r := topRun_mono (N - M) _ _ _ _ r
  rw [show M + (N - M) = N by have := Nat.le_of_ble_eq_true le; exact o155 this] at r
  have t : topFrom treeTable p w N ⟨boot_heap w.params, #[], boot_drawn, boot_toks, os⟩ = some s.abs := by
    unfold topFrom
    dsimp only
    rw [z1, z2, z3, r]
    show (match staticsOk (importedModules p.main.body) (boot_heap w.params) s.abs.heap && namesBound p s.abs.heap && gensDone s.abs && laidKept (boot_heap w.params) s.abs.heap with | true => _ | false => _) = _
    rw [l1]
  unfold openEnds
  rw [e1]
  show (topFrom treeTable p w N _).map _ = _
  rw [t]
  exact congrArg some (Prod.ext l2 l3)
end Mine
-- part LB
namespace Mine.Pure
open PySem
section
variable {α β : Type} {m : M α} {f : α → M β} {H H' : Hp} {a : α} {T : Tab} {Φ : Funs} {Γ : Env'}
theorem ltz {C : Nat → Prop} : ∀ k, k < 0 → C k := fun k h => absurd h (Nat.not_lt_zero k)
theorem ltc {n : Nat} {C : Nat → Prop} (h : ∀ k, k < n → C k) (hn : C n) : ∀ k, k < n + 1 → C k := fun k hk => (Nat.lt_succ_iff_lt_or_eq.mp hk).elim (h k) fun e => e ▸ hn
theorem five {C : Nat → Prop} (h0 : C 0) (h1 : C 1) (h2 : C 2) (h3 : C 3) (h4 : C 4) : ∀ k, k < 5 → C k := ltc (ltc (ltc (ltc (ltc ltz h0) h1) h2) h3) h4
theorem fcn {α : Type} {p : α → Prop} : ∀ x ∈ ([] : List α), p x := fun _ h => nomatch h
theorem fc {α : Type} {p : α → Prop} {a : α} {l : List α} (h : p a) (k : ∀ x ∈ l, p x) : ∀ x ∈ a :: l, p x := List.forall_mem_cons.mpr ⟨h, k⟩
theorem ret_at (a : α) (H : Hp) : M.ret a H = .ok a H := rfl
theorem look_at (f : Hp → Option α) (H : Hp) : M.look f H = (match f H with | some a => .ok a H | none => .bad) := rfl
theorem bf_len_script (ns : List Int) : bfV .len [.script ns] = M.ret (.int ns.length) := by
  funext H
  show (match (some (Val.int (ns.map Val.int).length) : Option Val) with | some a => Res.ok a H | none => .bad) = _
  rw [List.length_map]; rfl
theorem bf_len_loc {l : Nat} {xs : List Val} {H : Hp} (h : H[l]? = some (.list xs)) : bfV .len [.loc l] H = .ok (.int xs.length) H := by
  have e : bfV .len [.loc l] = M.look (fun H => (itemsOf (.loc l) H).map fun xs => Val.int xs.length) := rfl
  rw [e, look_at]
  simp only [itemsOf, h, Option.map_some]
theorem add_int (x y : Int) : binV .add (.int x) (.int y) = M.ret (.int (x + y)) := rfl
theorem sub_int (x y : Int) : binV .sub (.int x) (.int y) = M.ret (.int (x - y)) := rfl
theorem sub_script {ns : List Int} {k : Nat} {v : Int} (h : ns[k]? = some v) : subV (.script ns) (.int k) = M.ret (.int v) := by
  have lt := (List.getElem?_eq_some_iff.mp h).1
  funext H
  have e : subV (.script ns) (.int k) = M.look (fun _ => (placeOf (k : Int) ns.length).bind fun p => (ns[p]?).map Val.int) := rfl
  have : placeOf (k : Int) ns.length = some k := by
    unfold placeOf
    rw [if_pos (by exact o156), if_pos (by exact o157 lt)]; rfl
  rw [e, look_at, this]
  simp only [Option.bind_some, h, Option.map_some, ret_at]
theorem sub_tup {xs : List Val} {k : Nat} {v : Val} (h : xs[k]? = some v) : subV (.tup xs) (.int k) = M.ret v := by
  funext H
  have e : subV (.tup xs) (.int k) = M.look (fun _ => if 0 ≤ (k : Int) then xs[(k : Int).toNat]? else none) := rfl
  rw [e, look_at]
  simp only [if_pos (show 0 ≤ (k : Int) by exact o156), Int.toNat_natCast, h, ret_at]
theorem call_at {d k : Nat} {g : MFun} {args : List Val} (h : T.funs[k]? = some g) (ha : args.length = g.arity) :
    callF T (d + 1) k args H = resOf (execSs T (callF T d) g.body (args.map some ++ List.replicate g.nvars none) H) := by
  rw [callF, h]
  show runF T (callF T d) g args H = _
  unfold runF
  rw [if_pos ha]
end
end Mine.Pure
-- part LW
namespace Mine.Pure
open PySem
noncomputable def Wp {α : Type} (m : M α) (H : Hp) (Q : α → Hp → Prop) (E : Nat → Hp → Prop) : Prop :=
  match m H with
  | .ok a H' => Q a H'
  | .exc c H' => E c H'
  | .bad => False
noncomputable def WpS (r : ResS) (Q : Env' → Hp → Prop) (R : Val → Hp → Prop) (E : Nat → Env' → Hp → Prop) : Prop :=
  match r with
  | .next Γ H => Q Γ H
  | .ret v H => R v H
  | .exc c Γ H => E c Γ H
  | .bad => False
noncomputable def getV : Env' → Nat → (Val → Prop) → Prop
  | [], _, _ => False
  | some v :: _, 0, k => k v
  | none :: _, 0, _ => False
  | _ :: Γ, n + 1, k => getV Γ n k
noncomputable def asBool : Val → (Bool → Prop) → Prop
  | .bool b, k => k b
  | _, _ => False
noncomputable def getO {α : Type} : Option α → (α → Prop) → Prop
  | some a, k => k a
  | none, _ => False
noncomputable def brB : Bool → Prop → Prop → Prop
  | true, a, _ => a
  | false, _, b => b
noncomputable def NoE : Nat → Hp → Prop := fun _ _ => False
noncomputable def NoX : Nat → Env' → Hp → Prop := fun _ _ _ => False
noncomputable def wpBin (op : BOp) (a b : Val) (H : Hp) (Q : Val → Hp → Prop) (E : Nat → Hp → Prop) : Prop :=
  match a, b with
  | .int x, .int y => (match op with
    | .add => Q (.int (x + y)) H
    | .sub => Q (.int (x - y)) H
    | .mul => (small x || small y) = true ∧ Q (.int (x * y)) H
    | .fdiv => ¬ (y = 0 ∨ 1073741824 ≤ y.natAbs) ∧ Q (.int (Int.fdiv x y)) H
    | .mod => ¬ (y = 0) ∧ Q (.int (Int.fmod x y)) H)
  | a, b => Wp (binV op a b) H Q E
mutual
noncomputable def wpE (T : Tab) (Φ : Funs) : ME → Env' → Hp → (Val → Hp → Prop) → (Nat → Hp → Prop) → Prop
  | .none, _, H, Q, _ => Q .none H
  | .bool b, _, H, Q, _ => Q (.bool b) H
  | .int i, _, H, Q, _ => Q (.int i) H
  | .str s, _, H, Q, _ => Q (.str s) H
  | .glob k, _, H, Q, _ => getO T.globs[k]? fun v => Q v H
  | .var i, Γ, H, Q, _ => getV Γ i fun v => Q v H
  | .bin op a b, Γ, H, Q, E => wpE T Φ a Γ H (fun x H => wpE T Φ b Γ H (fun y H => wpBin op x y H Q E) E) E
  | .neg a, Γ, H, Q, E => Wp (evalE T Φ (.neg a) Γ) H Q E
  | .not a, Γ, H, Q, E => wpE T Φ a Γ H (fun x H => asBool x fun b => Q (.bool (!b)) H) E
  | .and a b, Γ, H, Q, E => wpE T Φ a Γ H (fun x H => asBool x fun t => brB t (wpE T Φ b Γ H Q E) (Q (.bool false) H)) E
  | .or a b, Γ, H, Q, E => wpE T Φ a Γ H (fun x H => asBool x fun t => brB t (Q (.bool true) H) (wpE T Φ b Γ H Q E)) E
  | .cmp op a b, Γ, H, Q, E => wpE T Φ a Γ H (fun x H => wpE T Φ b Γ H (fun y H => getO (cmpV op x y H) fun r => Q (.bool r) H) E) E
  | .cmp2 op1 op2 a b c, Γ, H, Q, E => wpE T Φ a Γ H (fun x H => wpE T Φ b Γ H (fun y H => getO (cmpV op1 x y H) fun r => brB r (wpE T Φ c Γ H (fun z H => getO (cmpV op2 y z H) fun r => Q (.bool r) H) E) (Q (.bool false) H)) E) E
  | .sub a i, Γ, H, Q, E => wpE T Φ a Γ H (fun x H => wpE T Φ i Γ H (fun y H => Wp (subV x y) H Q E) E) E
  | .slice a lo hi, Γ, H, Q, E => wpE T Φ a Γ H (fun x H => wpO T Φ lo Γ H (fun l H => wpO T Φ hi Γ H (fun h H => Wp (sliceV x l h) H Q E) E) E) E
  | .tup es, Γ, H, Q, E => wpEs T Φ es Γ H (fun vs H => Q (.tup vs) H) E
  | .list es, Γ, H, Q, E => wpEs T Φ es Γ H (fun vs H => Q (.loc H.length) (H ++ [.list vs])) E
  | .dict, _, H, Q, _ => Q (.loc H.length) (H ++ [.dict []])
  | .attr a n, Γ, H, Q, E => wpE T Φ a Γ H (fun x H => Wp (attrV x n) H Q E) E
  | .call f es, Γ, H, Q, E => wpEs T Φ es Γ H (fun vs H => Wp (Φ f vs) H Q E) E
  | .new c es, Γ, H, Q, E => getO (T.meth c 0) (fun _ => wpEs T Φ es Γ H (fun vs H => Wp (newV T Φ c vs) H Q E) E)
  | .umeth a m es, Γ, H, Q, E => wpE T Φ a Γ H (fun o H => Wp (umethOf T o m) H (fun k H => wpEs T Φ es Γ H (fun vs H => Wp (Φ k (o :: vs)) H Q E) E) E) E
  | .bf f es, Γ, H, Q, E => wpEs T Φ es Γ H (fun vs H => Wp (bfV f vs) H Q E) E
  | .bm a m es, Γ, H, Q, E => wpE T Φ a Γ H (fun o H => getO (bmFits m o H) fun _ => wpEs T Φ es Γ H (fun vs H => Wp (bmV m o vs) H Q E) E) E
  | .isinst a t, Γ, H, Q, E => wpE T Φ a Γ H (fun x H => Wp (isinstV T x t) H Q E) E
  | .comp elt it cond, Γ, H, Q, E => Wp (evalE T Φ (.comp elt it cond) Γ) H Q E
noncomputable def wpO (T : Tab) (Φ : Funs) : MEo → Env' → Hp → (Val → Hp → Prop) → (Nat → Hp → Prop) → Prop
  | .none, _, H, Q, _ => Q .none H
  | .some e, Γ, H, Q, E => wpE T Φ e Γ H Q E
noncomputable def wpEs (T : Tab) (Φ : Funs) : MEs → Env' → Hp → (List Val → Hp → Prop) → (Nat → Hp → Prop) → Prop
  | .nil, _, H, Q, _ => Q [] H
  | .cons e es, Γ, H, Q, E => wpE T Φ e Γ H (fun v H => wpEs T Φ es Γ H (fun vs H => Q (v :: vs) H) E) E
end
mutual
noncomputable def wpS (T : Tab) (Φ : Funs) : MS → Env' → Hp → (Env' → Hp → Prop) → (Val → Hp → Prop) → (Nat → Env' → Hp → Prop) → Prop
  | .expr e, Γ, H, Q, _, E => wpE T Φ e Γ H (fun _ H => Q Γ H) fun c H => E c Γ H
  | .assign i e, Γ, H, Q, _, E => wpE T Φ e Γ H (fun v H => Q (Γ.set i (some v)) H) fun c H => E c Γ H
  | .setattr o n e, Γ, H, Q, _, E => wpE T Φ e Γ H (fun v H => wpE T Φ o Γ H (fun o H => Wp (setattrV o n v) H (fun _ H => Q Γ H) fun c H => E c Γ H) fun c H => E c Γ H) fun c H => E c Γ H
  | .setitem o i e, Γ, H, Q, _, E => wpE T Φ e Γ H (fun v H => wpE T Φ o Γ H (fun o H => wpE T Φ i Γ H (fun i H => Wp (setitemV o i v) H (fun _ H => Q Γ H) fun c H => E c Γ H) fun c H => E c Γ H) fun c H => E c Γ H) fun c H => E c Γ H
  | .ret e, Γ, H, _, R, E => wpO T Φ e Γ H R fun c H => E c Γ H
  | .ite c t f, Γ, H, Q, R, E => wpE T Φ c Γ H (fun v H => asBool v fun b => brB b (wpSs T Φ t Γ H Q R E) (wpSs T Φ f Γ H Q R E)) fun c H => E c Γ H
  | .raise c _, Γ, H, _, _, E => T.isExc c = true ∧ E c Γ H
  | .each i a b, Γ, H, Q, R, E => WpS (execS T Φ (.each i a b) Γ H) Q R E
  | .eachZip i j a b c, Γ, H, Q, R, E => WpS (execS T Φ (.eachZip i j a b c) Γ H) Q R E
  | .eachEnum i j a b, Γ, H, Q, R, E => WpS (execS T Φ (.eachEnum i j a b) Γ H) Q R E
  | .tryx a b, Γ, H, Q, R, E => WpS (execS T Φ (.tryx a b) Γ H) Q R E
noncomputable def wpSs (T : Tab) (Φ : Funs) : MSs → Env' → Hp → (Env' → Hp → Prop) → (Val → Hp → Prop) → (Nat → Env' → Hp → Prop) → Prop
  | .nil, Γ, H, Q, _, _ => Q Γ H
  | .cons s ss, Γ, H, Q, R, E => wpS T Φ s Γ H (fun Γ H => wpSs T Φ ss Γ H Q R E) R E
end
section
variable {α β : Type} {T : Tab} {Φ : Funs} {Γ : Env'} {H : Hp}
variable {Q : Val → Hp → Prop} {E : Nat → Hp → Prop} {QS : Env' → Hp → Prop} {R : Val → Hp → Prop} {ES : Nat → Env' → Hp → Prop}
theorem wp_ret {Q : α → Hp → Prop} (a : α) : Wp (M.ret a) H Q E = Q a H := rfl
theorem wp_bnd {Q : β → Hp → Prop} (m : M α) (f : α → M β) : Wp (m.bnd f) H Q E = Wp m H (fun a H' => Wp (f a) H' Q E) E := by
  unfold Wp M.bnd
  cases m H <;> rfl
theorem wp_alloc (o : HObj) : Wp (M.alloc o) H Q E = Q (.loc H.length) (H ++ [o]) := rfl
theorem Wp.mono {Q Q' : α → Hp → Prop} {E' : Nat → Hp → Prop} {m : M α} (h : Wp m H Q E) (hq : ∀ a H', Q a H' → Q' a H') (he : ∀ c H', E c H' → E' c H') : Wp m H Q' E' := by
  unfold Wp at h ⊢
  cases hm : m H with
  | ok a H' => rw [hm] at h; exact hq _ _ h
  | exc c H' => rw [hm] at h; exact he _ _ h
  | bad => rw [hm] at h; exact h
theorem Wp.then {Q Q' : α → Hp → Prop} {m : M α} (h : Wp m H Q NoE) (hq : ∀ a H', Q a H' → Q' a H') : Wp m H Q' E :=
  h.mono hq (fun _ _ f => f.elim)
theorem Wp.of_eq {Q : α → Hp → Prop} {m : M α} {a : α} {H' : Hp} (h : m H = .ok a H') (q : Q a H') : Wp m H Q E := by
  unfold Wp; rw [h]; exact q
theorem Wp.get {Q : α → Hp → Prop} {m : M α} (h : Wp m H Q NoE) : ∃ a H', m H = .ok a H' ∧ Q a H' := by
  unfold Wp at h
  cases hm : m H with
  | ok a H' => rw [hm] at h; exact ⟨a, H', rfl, h⟩
  | exc c H' => rw [hm] at h; exact h.elim
  | bad => rw [hm] at h; exact h.elim
theorem WpS.mono {r : ResS} {Q' : Env' → Hp → Prop} {R' : Val → Hp → Prop} {E' : Nat → Env' → Hp → Prop} (h : WpS r QS R ES) (hq : ∀ Γ H', QS Γ H' → Q' Γ H') (hr : ∀ v H', R v H' → R' v H') (he : ∀ c Γ H', ES c Γ H' → E' c Γ H') : WpS r Q' R' E' := by
  cases r with
  | next Γ H => exact hq _ _ h
  | ret v H => exact hr _ _ h
  | exc c Γ H => exact he _ _ _ h
  | bad => exact h
theorem wps_bnd (m : M α) (Γ : Env') (f : α → Hp → ResS) : WpS (bndS m Γ f H) QS R ES = Wp m H (fun a H' => WpS (f a H') QS R ES) (fun c H' => ES c Γ H') := by
  unfold Wp bndS
  cases m H <;> rfl
theorem wps_then (r : ResS) (f : Env' → Hp → ResS) : WpS (thenS r f) QS R ES = WpS r (fun Γ H => WpS (f Γ H) QS R ES) R ES := by
  cases r <;> rfl
theorem wp_opt {Q : α → Hp → Prop} (o : Option α) : Wp (M.ofOpt o) H Q E = getO o (fun v => Q v H) := by cases o <;> rfl
theorem wp_look {Q : α → Hp → Prop} (f : Hp → Option α) : Wp (M.look f) H Q E = getO (f H) (fun v => Q v H) := by
  unfold Wp M.look
  cases f H <;> rfl
theorem getV_get : ∀ (Γ : Env') (i : Nat) (k : Val → Prop), getV Γ i k = getO (match Γ[i]? with | some (some v) => some v | _ => none) k
  | [], i, k => by cases i <;> rfl
  | some v :: Γ, 0, k => rfl
  | none :: Γ, 0, k => rfl
  | o :: Γ, i + 1, k => by
    have : getV (o :: Γ) (i + 1) k = getV Γ i k := by cases o <;> rfl
    rw [this, getV_get Γ i k, List.getElem?_cons_succ]
theorem getV_zero (v : Val) (Γ : Env') (k : Val → Prop) : getV (some v :: Γ) 0 k = k v := rfl
theorem getV_succ (o : Option Val) (Γ : Env') (n : Nat) (k : Val → Prop) : getV (o :: Γ) (n + 1) k = getV Γ n k := by cases o <;> rfl
theorem getV_s (v : Val) (Γ : Env') (n : Nat) (k : Val → Prop) : getV (some v :: Γ) (n + 1) k = getV Γ n k := rfl
theorem getV_n (Γ : Env') (n : Nat) (k : Val → Prop) : getV (none :: Γ) (n + 1) k = getV Γ n k := rfl
theorem asBool_bool (b : Bool) (k : Bool → Prop) : asBool (.bool b) k = k b := rfl
theorem getO_some {α : Type} (a : α) (k : α → Prop) : getO (some a) k = k a := rfl
theorem getO_of {α : Type} {o : Option α} {a : α} (h : o = some a) (k : α → Prop) : getO o k = k a := by rw [h]; rfl
theorem brB_true (A B : Prop) : brB true A B = A := rfl
theorem brB_false (A B : Prop) : brB false A B = B := rfl
theorem brB_not (b : Bool) (A B : Prop) : brB (!b) A B = brB b B A := by cases b <;> rfl
theorem brB_pos {p : Prop} [Decidable p] (h : p) (A B : Prop) : brB (decide p) A B = A := by rw [decide_eq_true h]; rfl
theorem brB_neg {p : Prop} [Decidable p] (h : ¬ p) (A B : Prop) : brB (decide p) A B = B := by rw [decide_eq_false h]; rfl
theorem brB_split {p : Prop} [Decidable p] {A B : Prop} (h1 : p → A) (h2 : ¬ p → B) : brB (decide p) A B := by
  by_cases h : p
  · rw [brB_pos h]; exact h1 h
  · rw [brB_neg h]; exact h2 h
theorem brB_cases {b : Bool} {A B : Prop} (h1 : b = true → A) (h2 : b = false → B) : brB b A B := by
  cases b
  · exact h2 rfl
  · exact h1 rfl
theorem wp_truth {Q : Bool → Hp → Prop} (v : Val) : Wp (truth v) H Q E = asBool v (fun b => Q b H) := by cases v <;> rfl
theorem asBool_br (x : Val) (A B : Prop) (f : Bool → Prop) (h1 : f true = A) (h2 : f false = B) : asBool x f = asBool x (fun t => brB t A B) := by
  cases x with
  | bool b => cases b; exact h2; exact h1
  | _ => rfl
theorem getO_br (x : Option Bool) (A B : Prop) (f : Bool → Prop) (h1 : f true = A) (h2 : f false = B) : getO x f = getO x (fun t => brB t A B) := by
  cases x with
  | some b => cases b; exact h2; exact h1
  | _ => rfl
theorem wv_ite {Q : α → Hp → Prop} (p : Prop) [Decidable p] (m : M α) : Wp (if p then m else M.bad) H Q E = (p ∧ Wp m H Q E) := by
  by_cases h : p
  · rw [if_pos h]; simp [h]
  · rw [if_neg h]; simp [h]; exact fun h => h
theorem wv_ite' {Q : α → Hp → Prop} (p : Prop) [Decidable p] (m : M α) : Wp (if p then M.bad else m) H Q E = (¬ p ∧ Wp m H Q E) := by
  by_cases h : p
  · rw [if_pos h]; simp [h]; exact fun h => h
  · rw [if_neg h]; simp [h]
theorem wpBin_eq (op : BOp) (a b : Val) : Wp (binV op a b) H Q E = wpBin op a b H Q E := by
  unfold wpBin
  split
  · cases op with
    | add => rfl
    | sub => rfl
    | mul => exact wv_ite _ _
    | fdiv => exact wv_ite' _ _
    | mod => exact wv_ite' _ _
  · rfl
theorem wp_none : wpE T Φ .none Γ H Q E = Q .none H := rfl
theorem wp_bool (b : Bool) : wpE T Φ (.bool b) Γ H Q E = Q (.bool b) H := rfl
theorem wp_int (i : Int) : wpE T Φ (.int i) Γ H Q E = Q (.int i) H := rfl
theorem wp_str (s : Str) : wpE T Φ (.str s) Γ H Q E = Q (.str s) H := rfl
theorem wp_glob (k : Nat) : wpE T Φ (.glob k) Γ H Q E = getO T.globs[k]? (fun v => Q v H) := rfl
theorem wp_var (i : Nat) : wpE T Φ (.var i) Γ H Q E = getV Γ i (fun v => Q v H) := rfl
theorem wp_bin (op : BOp) (a b : ME) : wpE T Φ (.bin op a b) Γ H Q E = wpE T Φ a Γ H (fun x H => wpE T Φ b Γ H (fun y H => wpBin op x y H Q E) E) E := rfl
theorem wp_not (a : ME) : wpE T Φ (.not a) Γ H Q E = wpE T Φ a Γ H (fun x H => asBool x fun b => Q (.bool (!b)) H) E := rfl
theorem wp_and (a b : ME) : wpE T Φ (.and a b) Γ H Q E = wpE T Φ a Γ H (fun x H => asBool x fun t => brB t (wpE T Φ b Γ H Q E) (Q (.bool false) H)) E := rfl
theorem wp_or (a b : ME) : wpE T Φ (.or a b) Γ H Q E = wpE T Φ a Γ H (fun x H => asBool x fun t => brB t (Q (.bool true) H) (wpE T Φ b Γ H Q E)) E := rfl
theorem wp_cmp (op : COp) (a b : ME) : wpE T Φ (.cmp op a b) Γ H Q E = wpE T Φ a Γ H (fun x H => wpE T Φ b Γ H (fun y H => getO (cmpV op x y H) fun r => Q (.bool r) H) E) E := rfl
theorem wp_cmp2 (op1 op2 : COp) (a b c : ME) : wpE T Φ (.cmp2 op1 op2 a b c) Γ H Q E = wpE T Φ a Γ H (fun x H => wpE T Φ b Γ H (fun y H => getO (cmpV op1 x y H) fun r => brB r (wpE T Φ c Γ H (fun z H => getO (cmpV op2 y z H) fun r => Q (.bool r) H) E) (Q (.bool false) H)) E) E := rfl
theorem wp_sub (a i : ME) : wpE T Φ (.sub a i) Γ H Q E = wpE T Φ a Γ H (fun x H => wpE T Φ i Γ H (fun y H => Wp (subV x y) H Q E) E) E := rfl
theorem wp_slice (a : ME) (lo hi : MEo) : wpE T Φ (.slice a lo hi) Γ H Q E = wpE T Φ a Γ H (fun x H => wpO T Φ lo Γ H (fun l H => wpO T Φ hi Γ H (fun h H => Wp (sliceV x l h) H Q E) E) E) E := rfl
theorem wp_oNone : wpO T Φ .none Γ H Q E = Q .none H := rfl
theorem wp_oSome (e : ME) : wpO T Φ (.some e) Γ H Q E = wpE T Φ e Γ H Q E := rfl
theorem wp_tup (es : MEs) : wpE T Φ (.tup es) Γ H Q E = wpEs T Φ es Γ H (fun vs H => Q (.tup vs) H) E := rfl
theorem wp_list (es : MEs) : wpE T Φ (.list es) Γ H Q E = wpEs T Φ es Γ H (fun vs H => Q (.loc H.length) (H ++ [.list vs])) E := rfl
theorem wp_dict : wpE T Φ .dict Γ H Q E = Q (.loc H.length) (H ++ [.dict []]) := rfl
theorem wp_attr (a : ME) (n : Nat) : wpE T Φ (.attr a n) Γ H Q E = wpE T Φ a Γ H (fun x H => Wp (attrV x n) H Q E) E := rfl
theorem wp_callE (f : Nat) (es : MEs) : wpE T Φ (.call f es) Γ H Q E = wpEs T Φ es Γ H (fun vs H => Wp (Φ f vs) H Q E) E := rfl
theorem wp_new (c : Nat) (es : MEs) : wpE T Φ (.new c es) Γ H Q E = getO (T.meth c 0) (fun _ => wpEs T Φ es Γ H (fun vs H => Wp (newV T Φ c vs) H Q E) E) := rfl
theorem wp_umeth (a : ME) (m : Nat) (es : MEs) : wpE T Φ (.umeth a m es) Γ H Q E = wpE T Φ a Γ H (fun o H => Wp (umethOf T o m) H (fun k H => wpEs T Φ es Γ H (fun vs H => Wp (Φ k (o :: vs)) H Q E) E) E) E := rfl
theorem wp_bf (f : BF) (es : MEs) : wpE T Φ (.bf f es) Γ H Q E = wpEs T Φ es Γ H (fun vs H => Wp (bfV f vs) H Q E) E := rfl
theorem wp_bm (a : ME) (m : BM) (es : MEs) : wpE T Φ (.bm a m es) Γ H Q E = wpE T Φ a Γ H (fun o H => getO (bmFits m o H) fun _ => wpEs T Φ es Γ H (fun vs H => Wp (bmV m o vs) H Q E) E) E := rfl
theorem wp_isinst (a : ME) (t : Ty) : wpE T Φ (.isinst a t) Γ H Q E = wpE T Φ a Γ H (fun x H => Wp (isinstV T x t) H Q E) E := rfl
theorem wp_nil {Q : List Val → Hp → Prop} : wpEs T Φ .nil Γ H Q E = Q [] H := rfl
theorem wp_cons {Q : List Val → Hp → Prop} (e : ME) (es : MEs) : wpEs T Φ (.cons e es) Γ H Q E = wpE T Φ e Γ H (fun v H => wpEs T Φ es Γ H (fun vs H => Q (v :: vs) H) E) E := rfl
theorem wps_nil : wpSs T Φ .nil Γ H QS R ES = QS Γ H := rfl
theorem wps_cons (s : MS) (ss : MSs) : wpSs T Φ (.cons s ss) Γ H QS R ES = wpS T Φ s Γ H (fun Γ H => wpSs T Φ ss Γ H QS R ES) R ES := rfl
theorem wps_expr (e : ME) : wpS T Φ (.expr e) Γ H QS R ES = wpE T Φ e Γ H (fun _ H => QS Γ H) (fun c H => ES c Γ H) := rfl
theorem wps_assign (i : Nat) (e : ME) : wpS T Φ (.assign i e) Γ H QS R ES = wpE T Φ e Γ H (fun v H => QS (Γ.set i (some v)) H) (fun c H => ES c Γ H) := rfl
theorem wps_ret (e : MEo) : wpS T Φ (.ret e) Γ H QS R ES = wpO T Φ e Γ H R (fun c H => ES c Γ H) := rfl
theorem wps_ite (c : ME) (t f : MSs) : wpS T Φ (.ite c t f) Γ H QS R ES = wpE T Φ c Γ H (fun v H => asBool v fun b => brB b (wpSs T Φ t Γ H QS R ES) (wpSs T Φ f Γ H QS R ES)) (fun c H => ES c Γ H) := rfl
theorem wps_setattr (o : ME) (n : Nat) (e : ME) : wpS T Φ (.setattr o n e) Γ H QS R ES = wpE T Φ e Γ H (fun v H => wpE T Φ o Γ H (fun o H => Wp (setattrV o n v) H (fun _ H => QS Γ H) (fun c H => ES c Γ H)) (fun c H => ES c Γ H)) (fun c H => ES c Γ H) := rfl
theorem wps_setitem (o i e : ME) : wpS T Φ (.setitem o i e) Γ H QS R ES = wpE T Φ e Γ H (fun v H => wpE T Φ o Γ H (fun o H => wpE T Φ i Γ H (fun i H => Wp (setitemV o i v) H (fun _ H => QS Γ H) (fun c H => ES c Γ H)) (fun c H => ES c Γ H)) (fun c H => ES c Γ H)) (fun c H => ES c Γ H) := rfl
theorem wps_raise (c : Nat) (m : Str) : wpS T Φ (.raise c m) Γ H QS R ES = (T.isExc c = true ∧ ES c Γ H) := rfl
theorem wps_if (T : Tab) (c : Nat) (Γ : Env') (H : Hp) (Q : Env' → Hp → Prop) (R : Val → Hp → Prop) (E : Nat → Env' → Hp → Prop) : WpS (if T.isExc c = true then .exc c Γ H else .bad) Q R E = (T.isExc c = true ∧ E c Γ H) := by
  by_cases h : T.isExc c = true
  · rw [if_pos h]; simp [h]; rfl
  · rw [if_neg h]; simp [h]; exact fun x => x
theorem wpE_nx {e : ME} {Q Q' : Val → Hp → Prop} (h : ∀ v H, Q v H = Q' v H) : wpE T Φ e Γ H Q E = wpE T Φ e Γ H Q' E := congrArg (fun q => wpE T Φ e Γ H q E) (funext fun v => funext fun H => h v H)
theorem wpO_nx {e : MEo} {Q Q' : Val → Hp → Prop} (h : ∀ v H, Q v H = Q' v H) : wpO T Φ e Γ H Q E = wpO T Φ e Γ H Q' E := congrArg (fun q => wpO T Φ e Γ H q E) (funext fun v => funext fun H => h v H)
theorem Wp_nx {m : M α} {Q Q' : α → Hp → Prop} (h : ∀ v H, Q v H = Q' v H) : Wp m H Q E = Wp m H Q' E := congrArg (fun q => Wp m H q E) (funext fun v => funext fun H => h v H)
theorem getO_nx {o : Option α} {Q Q' : α → Prop} (h : ∀ v, Q v = Q' v) : getO o Q = getO o Q' := congrArg (getO o) (funext h)
theorem wpS_nx {e : MS} {Q Q' : Env' → Hp → Prop} (h : ∀ v H, Q v H = Q' v H) : wpS T Φ e Γ H Q R ES = wpS T Φ e Γ H Q' R ES := congrArg (fun q => wpS T Φ e Γ H q R ES) (funext fun v => funext fun H => h v H)
end
mutual
theorem wpE_eq (T : Tab) (Φ : Funs) : ∀ (e : ME) (Γ : Env') (H : Hp) (Q : Val → Hp → Prop) (E : Nat → Hp → Prop), Wp (evalE T Φ e Γ) H Q E = wpE T Φ e Γ H Q E
  | .none, _, _, _, _ => rfl
  | .bool _, _, _, _, _ => rfl
  | .int _, _, _, _, _ => rfl
  | .str _, _, _, _, _ => rfl
  | .glob k, _, H, Q, E => wp_opt _
  | .var i, Γ, H, Q, E => (wp_opt _).trans (getV_get Γ i fun v => Q v H).symm
  | .bin op a b, Γ, H, Q, E => (wp_bnd _ _).trans ((wpE_eq T Φ a Γ H _ E).trans ((wpE_nx fun x H => (wp_bnd _ _).trans ((wpE_eq T Φ b Γ H _ E).trans (wpE_nx fun y H => wpBin_eq op x y))).trans (wp_bin op a b).symm))
  | .neg _, _, _, _, _ => rfl
  | .not a, Γ, H, Q, E => (wp_bnd _ _).trans ((wpE_eq T Φ a Γ H _ E).trans ((wpE_nx fun x H => (wp_bnd _ _).trans (wp_truth x)).trans (wp_not a).symm))
  | .and a b, Γ, H, Q, E => (wp_bnd _ _).trans ((wpE_eq T Φ a Γ H _ E).trans ((wpE_nx fun x H => (wp_bnd _ _).trans ((wp_truth x).trans (asBool_br _ _ _ _ (wpE_eq T Φ b Γ H Q E) rfl))).trans (wp_and a b).symm))
  | .or a b, Γ, H, Q, E => (wp_bnd _ _).trans ((wpE_eq T Φ a Γ H _ E).trans ((wpE_nx fun x H => (wp_bnd _ _).trans ((wp_truth x).trans (asBool_br _ _ _ _ rfl (wpE_eq T Φ b Γ H Q E)))).trans (wp_or a b).symm))
  | .cmp op a b, Γ, H, Q, E => (wp_bnd _ _).trans ((wpE_eq T Φ a Γ H _ E).trans ((wpE_nx fun x H => (wp_bnd _ _).trans ((wpE_eq T Φ b Γ H _ E).trans (wpE_nx fun y H => (wp_bnd _ _).trans (wp_look _)))).trans (wp_cmp op a b).symm))
  | .cmp2 op1 op2 a b c, Γ, H, Q, E => (wp_bnd _ _).trans ((wpE_eq T Φ a Γ H _ E).trans ((wpE_nx fun x H => (wp_bnd _ _).trans ((wpE_eq T Φ b Γ H _ E).trans (wpE_nx fun y H => (wp_bnd _ _).trans ((wp_look _).trans (getO_br _ _ _ _ ((wp_bnd _ _).trans ((wpE_eq T Φ c Γ H _ E).trans (wpE_nx fun z H => (wp_bnd _ _).trans (wp_look _)))) rfl))))).trans (wp_cmp2 op1 op2 a b c).symm))
  | .sub a i, Γ, H, Q, E => (wp_bnd _ _).trans ((wpE_eq T Φ a Γ H _ E).trans ((wpE_nx fun x H => (wp_bnd _ _).trans (wpE_eq T Φ i Γ H _ E)).trans (wp_sub a i).symm))
  | .slice a lo hi, Γ, H, Q, E => (wp_bnd _ _).trans ((wpE_eq T Φ a Γ H _ E).trans ((wpE_nx fun x H => (wp_bnd _ _).trans ((wpO_eq T Φ lo Γ H _ E).trans (wpO_nx fun l H => (wp_bnd _ _).trans (wpO_eq T Φ hi Γ H _ E)))).trans (wp_slice a lo hi).symm))
  | .tup es, Γ, H, Q, E => (wp_bnd _ _).trans ((wpEs_eq T Φ es Γ H _ E).trans rfl)
  | .list es, Γ, H, Q, E => (wp_bnd _ _).trans ((wpEs_eq T Φ es Γ H _ E).trans rfl)
  | .dict, _, _, _, _ => rfl
  | .attr a n, Γ, H, Q, E => (wp_bnd _ _).trans (wpE_eq T Φ a Γ H _ E)
  | .call f es, Γ, H, Q, E => (wp_bnd _ _).trans (wpEs_eq T Φ es Γ H _ E)
  | .new c es, Γ, H, Q, E => by
    have h : evalE T Φ (.new c es) Γ = (match T.meth c 0 with
      | some _ => (evalEs T Φ es Γ).bnd fun vs => newV T Φ c vs
      | none => M.bad) := rfl
    rw [h]
    show _ = getO (T.meth c 0) _
    cases T.meth c 0 with
    | none => rfl
    | some k => exact (wp_bnd _ _).trans (wpEs_eq T Φ es Γ H _ E)
  | .umeth a m es, Γ, H, Q, E => (wp_bnd _ _).trans ((wpE_eq T Φ a Γ H _ E).trans ((wpE_nx fun o H => (wp_bnd _ _).trans (Wp_nx fun k H => (wp_bnd _ _).trans (wpEs_eq T Φ es Γ H _ E))).trans (wp_umeth a m es).symm))
  | .bf f es, Γ, H, Q, E => (wp_bnd _ _).trans (wpEs_eq T Φ es Γ H _ E)
  | .bm a m es, Γ, H, Q, E => (wp_bnd _ _).trans ((wpE_eq T Φ a Γ H _ E).trans ((wpE_nx fun o H => (wp_bnd _ _).trans ((wp_look _).trans (getO_nx fun _ => (wp_bnd _ _).trans (wpEs_eq T Φ es Γ H _ E)))).trans (wp_bm a m es).symm))
  | .isinst a t, Γ, H, Q, E => (wp_bnd _ _).trans (wpE_eq T Φ a Γ H _ E)
  | .comp _ _ _, _, _, _, _ => rfl
theorem wpO_eq (T : Tab) (Φ : Funs) : ∀ (e : MEo) (Γ : Env') (H : Hp) (Q : Val → Hp → Prop) (E : Nat → Hp → Prop), Wp (evalO T Φ e Γ) H Q E = wpO T Φ e Γ H Q E
  | .none, _, _, _, _ => rfl
  | .some e, Γ, H, Q, E => wpE_eq T Φ e Γ H Q E
theorem wpEs_eq (T : Tab) (Φ : Funs) : ∀ (es : MEs) (Γ : Env') (H : Hp) (Q : List Val → Hp → Prop) (E : Nat → Hp → Prop), Wp (evalEs T Φ es Γ) H Q E = wpEs T Φ es Γ H Q E
  | .nil, _, _, _, _ => rfl
  | .cons e es, Γ, H, Q, E => (wp_bnd _ _).trans ((wpE_eq T Φ e Γ H _ E).trans ((wpE_nx fun v H => (wp_bnd _ _).trans (wpEs_eq T Φ es Γ H _ E)).trans (wp_cons e es).symm))
end
mutual
theorem wpS_eq (T : Tab) (Φ : Funs) : ∀ (s : MS) (Γ : Env') (H : Hp) (Q : Env' → Hp → Prop) (R : Val → Hp → Prop) (E : Nat → Env' → Hp → Prop), WpS (execS T Φ s Γ H) Q R E = wpS T Φ s Γ H Q R E
  | .expr e, Γ, H, Q, R, E => (wps_bnd _ _ _).trans (wpE_eq T Φ e Γ H _ _)
  | .assign i e, Γ, H, Q, R, E => (wps_bnd _ _ _).trans (wpE_eq T Φ e Γ H _ _)
  | .setattr o n e, Γ, H, Q, R, E => (wps_bnd _ _ _).trans ((wpE_eq T Φ e Γ H _ _).trans ((wpE_nx fun v H => (wps_bnd _ _ _).trans ((wpE_eq T Φ o Γ H _ _).trans (wpE_nx fun o H => wps_bnd _ _ _))).trans (wps_setattr o n e).symm))
  | .setitem o i e, Γ, H, Q, R, E => (wps_bnd _ _ _).trans ((wpE_eq T Φ e Γ H _ _).trans ((wpE_nx fun v H => (wps_bnd _ _ _).trans ((wpE_eq T Φ o Γ H _ _).trans (wpE_nx fun o H => (wps_bnd _ _ _).trans ((wpE_eq T Φ i Γ H _ _).trans (wpE_nx fun i H => wps_bnd _ _ _))))).trans (wps_setitem o i e).symm))
  | .ret e, Γ, H, Q, R, E => (wps_bnd _ _ _).trans (wpO_eq T Φ e Γ H _ _)
  | .ite c t f, Γ, H, Q, R, E => (wps_bnd _ _ _).trans ((wp_bnd _ _).trans ((wpE_eq T Φ c Γ H _ _).trans ((wpE_nx fun x H => (wp_truth x).trans (asBool_br _ _ _ _ (wpSs_eq T Φ t Γ H Q R E) (wpSs_eq T Φ f Γ H Q R E))).trans (wps_ite c t f).symm)))
  | .raise c m, Γ, H, Q, R, E => wps_if T c Γ H Q R E
  | .each _ _ _, _, _, _, _, _ => rfl
  | .eachZip _ _ _ _ _, _, _, _, _, _ => rfl
  | .eachEnum _ _ _ _, _, _, _, _, _ => rfl
  | .tryx _ _, _, _, _, _, _ => rfl
theorem wpSs_eq (T : Tab) (Φ : Funs) : ∀ (ss : MSs) (Γ : Env') (H : Hp) (Q : Env' → Hp → Prop) (R : Val → Hp → Prop) (E : Nat → Env' → Hp → Prop), WpS (execSs T Φ ss Γ H) Q R E = wpSs T Φ ss Γ H Q R E
  | .nil, _, _, _, _, _ => rfl
  | .cons s ss, Γ, H, Q, R, E => (wps_then _ _).trans ((wpS_eq T Φ s Γ H _ R E).trans ((wpS_nx fun Γ H => wpSs_eq T Φ ss Γ H Q R E).trans (wps_cons s ss).symm))
end
section
variable {α β : Type} {T : Tab} {Φ : Funs} {Γ : Env'} {H : Hp}
variable {Q : Val → Hp → Prop} {E : Nat → Hp → Prop} {QS : Env' → Hp → Prop} {R : Val → Hp → Prop} {ES : Nat → Env' → Hp → Prop}
theorem wpE_mono {e : ME} {Q' : Val → Hp → Prop} {E' : Nat → Hp → Prop} (h : wpE T Φ e Γ H Q E) (hq : ∀ a H', Q a H' → Q' a H') (he : ∀ c H', E c H' → E' c H') : wpE T Φ e Γ H Q' E' := by
  rw [← wpE_eq] at h ⊢; exact h.mono hq he
theorem wpE_then {e : ME} {Q' : Val → Hp → Prop} (h : wpE T Φ e Γ H Q NoE) (hq : ∀ a H', Q a H' → Q' a H') : wpE T Φ e Γ H Q' E := wpE_mono h hq fun _ _ f => f.elim
theorem wpS_mono {s : MS} {Q' : Env' → Hp → Prop} {R' : Val → Hp → Prop} {E' : Nat → Env' → Hp → Prop} (h : wpS T Φ s Γ H QS R ES) (hq : ∀ Γ H', QS Γ H' → Q' Γ H') (hr : ∀ v H', R v H' → R' v H') (he : ∀ c Γ H', ES c Γ H' → E' c Γ H') : wpS T Φ s Γ H Q' R' E' := by
  rw [← wpS_eq] at h ⊢; exact h.mono hq hr he
theorem wpSs_mono {s : MSs} {Q' : Env' → Hp → Prop} {R' : Val → Hp → Prop} {E' : Nat → Env' → Hp → Prop} (h : wpSs T Φ s Γ H QS R ES) (hq : ∀ Γ H', QS Γ H' → Q' Γ H') (hr : ∀ v H', R v H' → R' v H') (he : ∀ c Γ H', ES c Γ H' → E' c Γ H') : wpSs T Φ s Γ H Q' R' E' := by
  rw [← wpSs_eq] at h ⊢; exact h.mono hq hr he
theorem wp_call {d k : Nat} {g : MFun} {args : List Val} (h : T.funs[k]? = some g) (ha : args.length = g.arity) :
    Wp (callF T (d + 1) k args) H Q E = wpSs T (callF T d) g.body (args.map some ++ List.replicate g.nvars none) H (fun _ H' => Q .none H') Q (fun c _ H' => E c H') := by
  rw [← wpSs_eq]
  unfold Wp
  rw [call_at h ha]
  cases execSs T (callF T d) g.body (args.map some ++ List.replicate g.nvars none) H <;> rfl
theorem wps_try {body : MSs} {hs : MHs} (h : wpSs T Φ body Γ H QS R (fun c Γ H => WpS (execH T Φ hs c Γ H) QS R ES)) : wpS T Φ (.tryx body hs) Γ H QS R ES := by
  rw [← wpSs_eq] at h
  show WpS (match execSs T Φ body Γ H with
    | .exc c Γ' H' => execH T Φ hs c Γ' H'
    | r => r) QS R ES
  generalize execSs T Φ body Γ H = r at h
  cases r <;> exact h
theorem wps_each {i : Nat} {it : ME} {body : MSs} (h : wpE T Φ it Γ H (fun v H => getO (iterOf v H) fun p => WpS (eachL (chk p.2 p.1) (bind1 i) (execSs T Φ body) p.1 Γ H) QS R ES) (fun c H => ES c Γ H)) : wpS T Φ (.each i it body) Γ H QS R ES := by
  rw [← wpE_eq] at h
  refine ((wps_bnd _ _ _).trans ?_).mpr h
  simp only [wps_bnd, wp_look]
theorem wps_eachEnum {i j : Nat} {it : ME} {body : MSs} (h : wpE T Φ it Γ H (fun v H => getO (listOf v H) fun p => WpS (eachL (chk (some p.2) p.1) (bind2 i j) (execSs T Φ body) (countUp 0 p.1) Γ H) QS R ES) (fun c H => ES c Γ H)) : wpS T Φ (.eachEnum i j it body) Γ H QS R ES := by
  rw [← wpE_eq] at h
  refine ((wps_bnd _ _ _).trans ?_).mpr h
  simp only [wps_bnd, wp_look]
theorem wps_eachZip {i j : Nat} {a b : ME} {body : MSs} (h : wpE T Φ a Γ H (fun v H => wpE T Φ b Γ H (fun w H => getO (zipOf v w H) fun p => p.1.1.length = p.2.1.length ∧
    WpS (eachL (fun H' => chk p.1.2 p.1.1 H' && chk p.2.2 p.2.1 H' && isHid H.length H') (bind2 i j) (execSs T Φ body) (pairUp p.1.1 p.2.1) Γ (H ++ [.hid])) QS R ES) (fun c H => ES c Γ H)) (fun c H => ES c Γ H)) : wpS T Φ (.eachZip i j a b body) Γ H QS R ES := by
  simp only [← wpE_eq] at h
  refine (wps_bnd _ _ _).mpr (h.mono (fun v H h => (wps_bnd _ _ _).mpr (h.mono (fun w H h => ?_) fun _ _ h => h)) fun _ _ h => h)
  · rw [wps_bnd, wp_look]
    cases hp : zipOf v w H with
    | none => rw [hp] at h; exact h
    | some p =>
      rw [hp] at h
      obtain ⟨e, h⟩ := h
      show WpS (if _ then _ else _) _ _ _
      rw [if_pos e]; exact h
theorem wps_eachL {chk : Hp → Bool} {bind : Val → Env' → Option Env'} {body : MSs} (I : List Val → Env' → Hp → Prop) :
    ∀ (xs : List Val) (Γ : Env') (H : Hp), I xs Γ H → (∀ Γ H, I [] Γ H → QS Γ H) → (∀ ys Γ H, I ys Γ H → chk H = true) →
    (∀ x ys Γ H, I (x :: ys) Γ H → ∃ Γ', bind x Γ = some Γ' ∧ wpSs T Φ body Γ' H (I ys) R ES) → WpS (eachL chk bind (execSs T Φ body) xs Γ H) QS R ES
  | [], Γ, H, h, hd, hc, _ => by
    rw [eachL, if_pos (hc _ _ _ h)]; exact hd _ _ h
  | x :: xs, Γ, H, h, hd, hc, hs => by
    rw [eachL, if_pos (hc _ _ _ h)]
    refine ex1 (hs _ _ _ _ h) fun Γ' zz => aNd2 zz fun e w => ?_
    rw [e]
    rw [← wpSs_eq] at w
    rw [wps_then]
    exact w.mono (fun Γ H h => wps_eachL I xs Γ H h hd hc hs) (fun _ _ h => h) (fun _ _ _ h => h)
theorem wps_eachN {chk : Hp → Bool} {bind : Val → Env' → Option Env'} {body : MSs} {xs : List Val} (I : Nat → Env' → Hp → Prop)
    (h0 : I 0 Γ H) (hd : ∀ Γ H, I xs.length Γ H → QS Γ H) (hc : ∀ k Γ H, k ≤ xs.length → I k Γ H → chk H = true)
    (hs : ∀ k x Γ H, xs[k]? = some x → I k Γ H → ∃ Γ', bind x Γ = some Γ' ∧ wpSs T Φ body Γ' H (I (k + 1)) R ES) : WpS (eachL chk bind (execSs T Φ body) xs Γ H) QS R ES := by
  refine wps_eachL (fun ys Γ H => ∃ k, ys = xs.drop k ∧ k ≤ xs.length ∧ I k Γ H) xs Γ H ⟨0, rfl, Nat.zero_le _, h0⟩ ?_ ?_ ?_
  · intro Γ H zz
    refine ex1 zz fun k zz => aNd3 zz fun e l h => ?_
    have : k = xs.length := by
      have := congrArg List.length e
      simp at this; exact o158 this l
    subst this; exact hd _ _ h
  · intro ys Γ H zz
    refine ex1 zz fun k zz => aNd3 zz fun e l h => ?_
    exact hc k Γ H l h
  · intro x ys Γ H zz
    refine ex1 zz fun k zz => aNd3 zz fun e l h => ?_
    have hx : xs[k]? = some x := by
      have := congrArg (fun z => z[0]?) e
      simpa using this.symm
    have lt := (List.getElem?_eq_some_iff.mp hx).1
    refine ex1 (hs k x Γ H hx h) fun Γ' zz => aNd2 zz fun hb w => ?_
    refine ⟨Γ', hb, wpSs_mono w ?_ (fun _ _ h => h) (fun _ _ _ h => h)⟩
    intro Γ H h
    refine ⟨k + 1, ?_, lt, h⟩
    have := congrArg List.tail e
    simpa using this
theorem wp_compL {chk : Hp → Bool} {step : Val → M (Option Val)} {Q : List Val → Hp → Prop} (I : List Val → List Val → Hp → Prop) :
    ∀ (xs : List Val) (out : List Val) (H : Hp), I xs out H → (∀ ys out H, I ys out H → chk H = true) →
    (∀ x ys out H, I (x :: ys) out H → Wp (step x) H (fun r H => I ys (out ++ r.toList) H) E) →
    (∀ zs H, I [] (out ++ zs) H → Q zs H) → Wp (compL chk step xs) H Q E
  | [], out, H, h, hc, _, hd => by
    have : compL chk step [] H = .ok [] H := by
      exact if_pos (hc _ _ _ h)
    exact Wp.of_eq this (hd [] H (by simpa using h))
  | x :: xs, out, H, h, hc, hs, hd => by
    have : compL chk step (x :: xs) H = ((step x).bnd fun r => (compL chk step xs).bnd fun ys => .ret (match r with | some y => y :: ys | none => ys)) H := by
      exact if_pos (hc _ _ _ h)
    unfold Wp; rw [this]
    show Wp _ H Q E
    rw [wp_bnd]
    refine (hs _ _ _ _ h).mono ?_ (fun _ _ h => h)
    intro r H h
    rw [wp_bnd]
    simp only [wp_ret]
    refine wp_compL I xs _ H h hc hs ?_
    intro zs H h
    refine hd _ H ?_
    cases r with
    | none => simpa using h
    | some y => simpa using h
theorem wp_quiet {Q : α → Hp → Prop} {m : M α} (h : Wp m H Q NoE) : Wp (M.quiet m) H Q E := by
  unfold Wp at h ⊢
  unfold M.quiet
  cases hm : m H with
  | ok a H' => rw [hm] at h; exact h
  | exc c H' => rw [hm] at h; exact h.elim
  | bad => rw [hm] at h; exact h.elim
theorem wp_comp {elt it : ME} {cond : MEo} (h : wpE T Φ it Γ H (fun v H => getO (iterOf v H) fun p =>
    Wp (compL (chk p.2 p.1) (fun x => (evalC T Φ cond (Γ ++ [some x])).bnd fun b => match b with
        | true => (evalE T Φ elt (Γ ++ [some x])).bnd fun y => .ret (some y)
        | false => .ret none) p.1) H (fun ys H => ys.length < lid ∧ Q (.loc H.length) (H ++ [.list ys])) NoE) E) : wpE T Φ (.comp elt it cond) Γ H Q E := by
  rw [← wpE_eq] at h ⊢
  refine (wp_bnd _ _).mpr (h.mono ?_ (fun _ _ h => h))
  intro v H h
  rw [wp_bnd, wp_look]
  cases hp : iterOf v H with
  | none => rw [hp] at h; exact h
  | some p =>
  rw [hp] at h
  show Wp _ _ _ _
  rw [wp_bnd]
  refine wp_quiet (Wp.mono h ?_ (fun _ _ h => h))
  rintro ys H ⟨hl, q⟩
  rw [if_pos hl]; exact q
theorem wp_step0 {elt : ME} {Q : Option Val → Hp → Prop} (h : wpE T Φ elt Γ H (fun y H => Q (some y) H) E) :
    Wp ((evalC T Φ .none Γ).bnd fun b => match b with
        | true => (evalE T Φ elt Γ).bnd fun y => M.ret (some y)
        | false => .ret none) H Q E := by
  rw [← wpE_eq] at h
  exact (wp_bnd _ _).mpr (show Wp _ H Q E from (wp_bnd _ _).mpr h)
theorem wp_step {elt c : ME} {Q : Option Val → Hp → Prop} (h : wpE T Φ c Γ H (fun v H => asBool v fun b => brB b (wpE T Φ elt Γ H (fun y H => Q (some y) H) E) (Q none H)) E) :
    Wp ((evalC T Φ (.some c) Γ).bnd fun b => match b with
        | true => (evalE T Φ elt Γ).bnd fun y => M.ret (some y)
        | false => .ret none) H Q E := by
  simp only [← wpE_eq] at h
  rw [wp_bnd]
  refine (wp_bnd _ _).mpr (h.mono ?_ (fun _ _ h => h))
  intro v H h
  cases v with
  | bool b =>
    cases b with
    | true => exact (wp_bnd _ _).mpr h
    | false => exact h
  | _ => exact h
end
end Mine.Pure
-- part LV
namespace Mine.Pure
open PySem
section
variable {T : Tab} {Φ : Funs} {Γ : Env'} {H : Hp}
variable {Q : Val → Hp → Prop} {E : Nat → Hp → Prop}
theorem wv_add (x y : Int) : wpBin .add (.int x) (.int y) H Q E = Q (.int (x + y)) H := rfl
theorem wv_sub (x y : Int) : wpBin .sub (.int x) (.int y) H Q E = Q (.int (x - y)) H := rfl
theorem wv_mul (x y : Int) : wpBin .mul (.int x) (.int y) H Q E = ((small x || small y) = true ∧ Q (.int (x * y)) H) := rfl
theorem wv_fdiv (x y : Int) : wpBin .fdiv (.int x) (.int y) H Q E = (¬ (y = 0 ∨ 1073741824 ≤ y.natAbs) ∧ Q (.int (Int.fdiv x y)) H) := rfl
theorem wv_mod (x y : Int) : wpBin .mod (.int x) (.int y) H Q E = (¬ (y = 0) ∧ Q (.int (Int.fmod x y)) H) := rfl
theorem wv_range (n : Int) : Wp (bfV .range [.int n]) H Q E = ((-1073741824 ≤ n ∧ n ≤ 1073741824) ∧ Q (.rng n) H) := wv_ite _ _
theorem wv_len_script (ns : List Int) : Wp (bfV .len [.script ns]) H Q E = Q (.int ns.length) H := by rw [bf_len_script, wp_ret]
theorem wv_len_tup (xs : List Val) : Wp (bfV .len [.tup xs]) H Q E = Q (.int xs.length) H := rfl
theorem wv_len_loc {l : Nat} {xs : List Val} (h : H[l]? = some (.list xs)) : Wp (bfV .len [.loc l]) H Q E = Q (.int xs.length) H := by
  unfold Wp; rw [bf_len_loc h]
theorem data_int (n : Nat) (i : Int) : dataOf H n (.int i) = some (.int i) := by cases n <;> rfl
theorem data_none (n : Nat) : dataOf H n .none = some .none := by cases n <;> rfl
theorem go_eq (x y : Int) (k : Bool → Prop) : getO (cmpV .eq (.int x) (.int y) H) k = k (decide (x = y)) := rfl
theorem go_ne (x y : Int) (k : Bool → Prop) : getO (cmpV .ne (.int x) (.int y) H) k = k (!decide (x = y)) := rfl
theorem go_neB (x y : Bool) (k : Bool → Prop) : getO (cmpV .ne (.bool x) (.bool y) H) k = k (!decide (x = y)) := rfl
theorem go_lt (x y : Int) (k : Bool → Prop) : getO (cmpV .lt (.int x) (.int y) H) k = k (decide (x < y)) := rfl
theorem go_gt (x y : Int) (k : Bool → Prop) : getO (cmpV .gt (.int x) (.int y) H) k = k (decide (y < x)) := rfl
theorem go_le (x y : Int) (k : Bool → Prop) : getO (cmpV .le (.int x) (.int y) H) k = k (decide (x ≤ y)) := rfl
theorem go_isNone_none (k : Bool → Prop) : getO (cmpV .is .none .none H) k = k true := rfl
theorem go_isNone_int (i : Int) (k : Bool → Prop) : getO (cmpV .is (.int i) .none H) k = k false := rfl
theorem go_isNotNone_none (k : Bool → Prop) : getO (cmpV .isNot .none .none H) k = k false := rfl
theorem go_isNotNone_int (i : Int) (k : Bool → Prop) : getO (cmpV .isNot (.int i) .none H) k = k true := rfl
theorem wi_kd (v : Val) (t : Ty) (k : Kd) (h : kdOf H v = some k) (ht : ∀ c, t ≠ .cls c) : Wp (isinstV T v t) H Q E = Q (.bool (isKd t k)) H := by
  have e : isinstV T v t H = .ok (.bool (isKd t k)) H := by
    unfold isinstV; rw [look_at]
    cases t with
    | cls c => exact absurd rfl (ht c)
    | _ => simp only [h, Option.map_some]
  unfold Wp; rw [e]
theorem wi_int_int (i : Int) : Wp (isinstV T (.int i) .int) H Q E = Q (.bool true) H := rfl
theorem wi_int_bool (i : Int) : Wp (isinstV T (.int i) .bool) H Q E = Q (.bool false) H := rfl
theorem wi_int_tup (i : Int) : Wp (isinstV T (.int i) .tuple) H Q E = Q (.bool false) H := rfl
theorem wi_int_list (i : Int) : Wp (isinstV T (.int i) .list) H Q E = Q (.bool false) H := rfl
theorem wi_bool_int (i : Bool) : Wp (isinstV T (.bool i) .int) H Q E = Q (.bool true) H := rfl
theorem wi_bool_bool (i : Bool) : Wp (isinstV T (.bool i) .bool) H Q E = Q (.bool true) H := rfl
theorem wi_bool_tup (i : Bool) : Wp (isinstV T (.bool i) .tuple) H Q E = Q (.bool false) H := rfl
theorem wi_none_tup : Wp (isinstV T .none .tuple) H Q E = Q (.bool false) H := rfl
theorem wi_none_int : Wp (isinstV T .none .int) H Q E = Q (.bool false) H := rfl
theorem wi_str_tup (s : Str) : Wp (isinstV T (.str s) .tuple) H Q E = Q (.bool false) H := rfl
theorem wi_str_int (s : Str) : Wp (isinstV T (.str s) .int) H Q E = Q (.bool false) H := rfl
theorem wi_tup_tup (xs : List Val) : Wp (isinstV T (.tup xs) .tuple) H Q E = Q (.bool true) H := rfl
theorem wi_tup_int (xs : List Val) : Wp (isinstV T (.tup xs) .int) H Q E = Q (.bool false) H := rfl
theorem wi_list (l : Nat) (xs : List Val) (h : H[l]? = some (.list xs)) : Wp (isinstV T (.loc l) .list) H Q E = Q (.bool true) H :=
  wi_kd _ _ .list (by simp only [kdOf, h]) (by intro c h; cases h)
theorem wi_list_tup (l : Nat) (xs : List Val) (h : H[l]? = some (.list xs)) : Wp (isinstV T (.loc l) .tuple) H Q E = Q (.bool false) H :=
  wi_kd _ _ .list (by simp only [kdOf, h]) (by intro c h; cases h)
theorem ws_tup0 (x : Val) (xs : List Val) : Wp (subV (.tup (x :: xs)) (.int 0)) H Q E = Q x H := rfl
theorem ws_tup1 (x y : Val) (xs : List Val) : Wp (subV (.tup (x :: y :: xs)) (.int 1)) H Q E = Q y H := rfl
theorem ws_tup2 (x y z : Val) (xs : List Val) : Wp (subV (.tup (x :: y :: z :: xs)) (.int 2)) H Q E = Q z H := rfl
theorem place_nat (k n : Nat) (h : k < n) : placeOf (k : Int) n = some k := by
  unfold placeOf
  rw [if_pos (by exact o156), if_pos (by exact o157 h)]; rfl
theorem place_int (k : Int) (n : Nat) (h0 : 0 ≤ k) (h : k < n) : placeOf k n = some k.toNat := by
  unfold placeOf
  rw [if_pos h0, if_pos h]
theorem ws_list {l : Nat} {xs : List Val} (h : H[l]? = some (.list xs)) {k : Int} {v : Val} (h0 : 0 ≤ k) (hk : xs[k.toNat]? = some v) (q : Q v H) : Wp (subV (.loc l) (.int k)) H Q E := by
  have lt := (List.getElem?_eq_some_iff.mp hk).1
  refine Wp.of_eq ?_ q
  unfold subV; rw [look_at]
  simp only [h, place_int k xs.length h0 (by exact o11 h0 lt), Option.bind_some, hk]
theorem fits_append {l : Nat} {xs : List Val} (h : H[l]? = some (.list xs)) : bmFits .append (.loc l) H = some () := by
  unfold bmFits; simp only [h]
theorem wm_append {l : Nat} {xs : List Val} {v : Val} (h : H[l]? = some (.list xs)) (hl : xs.length < lid) (q : Q .none (H.set l (.list (xs ++ [v])))) : Wp (bmV .append (.loc l) [v]) H Q E := by
  refine Wp.of_eq ?_ q
  unfold bmV; simp only [h]
  exact if_pos hl
theorem wp_appendE {i : Nat} {e : ME} {l : Nat} {xs : List Val} (hi : Γ[i]? = some (some (.loc l))) (h : H[l]? = some (.list xs))
    (q : wpE T Φ e Γ H (fun v H' => ∃ ys, H'[l]? = some (.list ys) ∧ ys.length < lid ∧ Q .none (H'.set l (.list (ys ++ [v])))) E) : wpE T Φ (.bm (.var i) .append (.cons e .nil)) Γ H Q E := by
  rw [wp_bm, wp_var]
  rw [getV_get, hi]
  show getO (bmFits _ _ _) _
  rw [fits_append h]
  refine wpE_mono q ?_ (fun _ _ h => h)
  intro v H' zz
  refine ex1 zz fun ys zz => aNd3 zz fun hy hl q => ?_
  exact wm_append hy hl q
end
end Mine.Pure
-- part LX
namespace Mine.Pure
open PySem
noncomputable def Ext (H H' : Hp) : Prop := ∃ K, H' = H ++ K
theorem Ext.refl (H : Hp) : Ext H H := ⟨[], by simp⟩
theorem Ext.trans {H H1 H2 : Hp} : Ext H H1 → Ext H1 H2 → Ext H H2
  | ⟨K, e⟩, ⟨L, f⟩ => ⟨K ++ L, by rw [f, e, List.append_assoc]⟩
theorem Ext.new {H H' : Hp} (h : Ext H H') (o : HObj) : Ext H (H' ++ [o]) := h.trans ⟨[o], rfl⟩
theorem Ext.get {H H' : Hp} (h : Ext H H') {l : Nat} {o : HObj} (g : H[l]? = some o) : H'[l]? = some o := by
  obtain ⟨K, rfl⟩ := h
  rw [List.getElem?_append_left (List.getElem?_eq_some_iff.mp g).1]; exact g
theorem Ext.len {H H' : Hp} (h : Ext H H') : H.length ≤ H'.length := by
  obtain ⟨K, rfl⟩ := h; simp
theorem Ext.set {H H' : Hp} (h : Ext H H') {l : Nat} (hl : H.length ≤ l) (o : HObj) : Ext H (H'.set l o) := by
  obtain ⟨K, rfl⟩ := h
  exact ⟨K.set (l - H.length) o, by rw [List.set_append_right _ _ hl]⟩
theorem get_new (H : Hp) (o : HObj) : (H ++ [o])[H.length]? = some o := by simp
theorem lt_of_get {H : Hp} {l : Nat} {o : HObj} (g : H[l]? = some o) : l < H.length := (List.getElem?_eq_some_iff.mp g).1
theorem get_set {H : Hp} {l : Nat} {o : HObj} (o' : HObj) (g : H[l]? = some o) : (H.set l o')[l]? = some o' := by
  rw [List.getElem?_set_self (lt_of_get g)]
theorem get_other {H : Hp} {l m : Nat} {o : HObj} (o' : HObj) (hne : l ≠ m) (g : H[m]? = some o) : (H.set l o')[m]? = some o := by
  rw [List.getElem?_set_ne hne]; exact g
theorem chk_list {H : Hp} {l : Nat} {xs : List Val} (h : H[l]? = some (.list xs)) : chk (some l) xs H = true := by
  simp only [chk, h]; exact sames_refl xs
theorem iter_list {H : Hp} {l : Nat} {xs : List Val} (h : H[l]? = some (.list xs)) : iterOf (.loc l) H = some (xs, some l) := by
  simp only [iterOf, h]
theorem listOf_list {H : Hp} {l : Nat} {xs : List Val} (h : H[l]? = some (.list xs)) : listOf (.loc l) H = some (xs, l) := by
  simp only [listOf, h]
noncomputable def rngL (n : Int) : List Val := (List.range n.toNat).map (fun (k : Nat) => .int (k : Int))
theorem rngL_get {n : Int} {k : Nat} {x : Val} (h : (rngL n)[k]? = some x) : x = .int k ∧ (k : Int) < n := by
  unfold rngL at h
  rw [List.getElem?_map] at h
  cases e : (List.range n.toNat)[k]? with
  | none => rw [e] at h; exact nomatch h
  | some j =>
    rw [e] at h
    obtain ⟨lt, g⟩ := List.getElem?_eq_some_iff.mp e
    simp at g lt h
    subst g
    exact ⟨h.symm, by omega⟩
theorem rngL_len (n : Int) : (rngL n).length = n.toNat := by simp [rngL]
section
variable {T : Tab} {Φ : Funs} {Γ : Env'} {H : Hp} {QS : Env' → Hp → Prop} {R : Val → Hp → Prop} {ES : Nat → Env' → Hp → Prop}
theorem wps_seq {s : MS} {ss : MSs} (P : Env' → Hp → Prop) (h : wpS T Φ s Γ H P R ES) (q : ∀ Γ H, P Γ H → wpSs T Φ ss Γ H QS R ES) : wpSs T Φ (.cons s ss) Γ H QS R ES := by
  skip; exact wpS_mono h q (fun _ _ h => h) (fun _ _ _ h => h)
theorem wps_asg {i : Nat} {e : ME} {ss : MSs} (P : Val → Hp → Prop) (h : wpE T Φ e Γ H P NoE) (q : ∀ v H, P v H → wpSs T Φ ss (Γ.set i (some v)) H QS R ES) : wpSs T Φ (.cons (.assign i e) ss) Γ H QS R ES := by
  skip; exact wpE_then h q
theorem wps_ex {e : ME} {ss : MSs} (P : Hp → Prop) (h : wpE T Φ e Γ H (fun _ H => P H) NoE) (q : ∀ H, P H → wpSs T Φ ss Γ H QS R ES) : wpSs T Φ (.cons (.expr e) ss) Γ H QS R ES := by
  skip; exact wpE_then h (fun _ => q)
theorem wps_no {c : ME} {t ss : MSs} (P : Hp → Prop) (h : wpE T Φ c Γ H (fun v H => v = .bool false ∧ P H) NoE) (q : ∀ H, P H → wpSs T Φ ss Γ H QS R ES) : wpSs T Φ (.cons (.ite c t .nil) ss) Γ H QS R ES := by
  refine wpE_then h ?_
  rintro v H ⟨rfl, p⟩
  exact q H p
theorem wps_eachR {i : Nat} {e : ME} {body : MSs} {n : Int} (I : Nat → Env' → Hp → Prop)
    (he : wpE T Φ e Γ H (fun v H' => v = .int n ∧ H' = H) NoE) (hn : -1073741824 ≤ n ∧ n ≤ 1073741824) (h0 : I 0 Γ H)
    (hs : ∀ (k : Nat) Γ H, (k : Int) < n → I k Γ H → wpSs T Φ body (Γ.set i (some (.int k))) H (I (k + 1)) R ES)
    (hd : ∀ Γ H, I n.toNat Γ H → QS Γ H) : wpS T Φ (.each i (.bf .range (.cons e .nil)) body) Γ H QS R ES := by
  apply wps_each
  rw [wp_bf, wp_cons]
  refine wpE_then he ?_
  rintro v H' ⟨rfl, rfl⟩
  rw [wp_nil, wv_range]
  refine ⟨hn, ?_⟩
  show WpS (eachL (chk none (rngL n)) _ _ (rngL n) _ _) _ _ _
  refine wps_eachN I h0 ?_ (fun _ _ _ _ _ => rfl) ?_
  · rw [rngL_len]; exact hd
  · intro k x Γ H hx hi
    obtain ⟨hr0, lt⟩ := rngL_get hx; refine Eq.symm hr0 ▸ ?_
    exact ⟨_, rfl, hs k Γ H lt hi⟩
end
end Mine.Pure
-- part LE
namespace Mine.Pure
open PySem
section
variable {T : Tab} {Φ : Funs} {Γ : Env'} {H : Hp} {QS : Env' → Hp → Prop} {R : Val → Hp → Prop} {ES : Nat → Env' → Hp → Prop}
theorem wps_hit {c d i : Nat} {body : MSs} {hs : MHs} (h0 : (T.isExc c && T.isExc d && calmSs (calmFn T) body) = true) (h1 : T.sub c d = true) (h : wpSs T Φ body (Γ.set i (some (.exc c))) H (fun _ _ => False) R NoX) : WpS (execH T Φ (.cons d (some i) body hs) c Γ H) QS R ES := by
  rw [← wpSs_eq] at h
  show WpS (if (T.isExc c && T.isExc d && calmSs (calmFn T) body) = false then .bad else if T.sub c d = true then _ else _) QS R ES
  rw [h0, if_neg (by decide), if_pos h1]
  show WpS (match execSs T Φ body (Γ.set i (some (.exc c))) H with
      | .ret v H' => .ret v H'
      | _ => .bad) QS R ES
  generalize execSs T Φ body (Γ.set i (some (.exc c))) H = r at h
  cases r <;> exact h
end
end Mine.Pure
-- part LG
namespace Mine.Pure
open PySem
structure GAt (H : Hp) (l b s : Nat) (g : List (List Val)) : Prop where
  top : H[l]? = some (.list ((List.range g.length).map fun i => .loc (b + s * i)))
  row : ∀ i r, g[i]? = some r → H[b + s * i]? = some (.list r)
theorem GAt.ext {H H' : Hp} {l b s : Nat} {g : List (List Val)} (x : GAt H l b s g) (e : Ext H H') : GAt H' l b s g := ⟨e.get x.top, fun i r h => e.get (x.row i r h)⟩
theorem GAt.other {H : Hp} {l b s m : Nat} {g : List (List Val)} (x : GAt H l b s g) (o : HObj) (h1 : m ≠ l) (h2 : ∀ i, i < g.length → m ≠ b + s * i) : GAt (H.set m o) l b s g :=
  ⟨get_other o h1 x.top, fun i r h => get_other o (h2 i (List.getElem?_eq_some_iff.mp h).1) (x.row i r h)⟩
theorem GAt.item {H : Hp} {l b s : Nat} {g : List (List Val)} (x : GAt H l b s g) {i : Nat} (h : i < g.length) : ((List.range g.length).map fun i => Val.loc (b + s * i))[i]? = some (.loc (b + s * i)) := by
  rw [List.getElem?_map, List.getElem?_range h]; rfl
section
variable {T : Tab} {Φ : Funs} {Γ : Env'} {H : Hp} {Q : Val → Hp → Prop} {E : Nat → Hp → Prop}
theorem wp_compN {chk : Hp → Bool} {step : Val → M (Option Val)} {Q : List Val → Hp → Prop} {xs : List Val} (I : Nat → List Val → Hp → Prop) (h0 : I 0 [] H) (hc : ∀ k out H, I k out H → chk H = true)
    (hs : ∀ k x out H, xs[k]? = some x → I k out H → Wp (step x) H (fun r H => I (k + 1) (out ++ r.toList) H) E) (hd : ∀ zs H, I xs.length zs H → Q zs H) : Wp (compL chk step xs) H Q E := by
  refine wp_compL (fun ys out H => ∃ k, ys = xs.drop k ∧ k ≤ xs.length ∧ I k out H) xs [] H ⟨0, rfl, Nat.zero_le _, h0⟩ ?_ ?_ ?_
  · rintro ys out H ⟨k, _, _, h⟩; exact hc k out H h
  · intro x ys out H zz
    refine ex1 zz fun k zz => aNd3 zz fun e l h => ?_
    have hx : xs[k]? = some x := by
      have := congrArg (fun z => z[0]?) e
      simpa using this.symm
    refine (hs k x out H hx h).mono ?_ (fun _ _ h => h)
    intro r H h
    refine ⟨k + 1, ?_, (List.getElem?_eq_some_iff.mp hx).1, h⟩
    have := congrArg List.tail e
    simpa using this
  · intro zs H zz
    refine ex1 zz fun k zz => aNd3 zz fun e l h => ?_
    have : k = xs.length := by
      have := congrArg List.length e
      simp at this; exact o158 this l
    subst this; exact hd _ _ h
theorem comp_pure {elt it : ME} {xs : List Val} {src : Option Nat} (P : Nat → Val → Prop) (hit : wpE T Φ it Γ H (fun v H' => H' = H ∧ iterOf v H = some (xs, src)) NoE) (hck : chk src xs H = true) (hz : xs.length < lid)
    (he : ∀ k x, xs[k]? = some x → wpE T Φ elt (Γ ++ [some x]) H (fun v H' => P k v ∧ H' = H) NoE) (q : ∀ ys, ys.length = xs.length → (∀ k v, ys[k]? = some v → P k v) → Q (.loc H.length) (H ++ [.list ys])) : wpE T Φ (.comp elt it .none) Γ H Q E := by
  refine wp_comp (wpE_then hit ?_)
  rintro v H' ⟨e, hi⟩
  rw [e, hi]
  clear e
  refine wp_compN (fun k out H' => H' = H ∧ out.length = k ∧ ∀ j v, out[j]? = some v → P j v) ⟨rfl, rfl, fun j v h => by cases h⟩ ?_ ?_ ?_
  · rintro k out _ ⟨hr0, _⟩; refine Eq.symm hr0 ▸ ?_; exact hck
  · rintro k x out _ hx ⟨hr1, hl, hp⟩; refine Eq.symm hr1 ▸ ?_
    refine wp_step0 (wpE_then (he k x hx) ?_)
    rintro v _ ⟨hv, hr2⟩; refine hr2 ▸ ?_
    refine ⟨rfl, by rw [List.length_append, hl]; rfl, fun j w hj => ?_⟩
    by_cases c : j < out.length
    · rw [List.getElem?_append_left c] at hj; exact hp j w hj
    · rw [List.getElem?_append_right (by exact o159 hl c)] at hj
      have : j - out.length = 0 := by
        have := (List.getElem?_eq_some_iff.mp hj).1
        simp at this; omega
      rw [this] at hj
      cases hj
      have : j = k := by exact o160 this hl c
      rw [this]; exact hv
  · rintro zs _ ⟨hr3, hl, hp⟩; refine Eq.symm hr3 ▸ ?_
    have hl : zs.length = xs.length := hl
    exact ⟨by omega, q zs hl hp⟩
theorem comp_rows {elt it : ME} {xs : List Val} {src : Option Nat} (s : Nat) (P : Nat → List Val → Prop) (hit : wpE T Φ it Γ H (fun v H' => H' = H ∧ iterOf v H = some (xs, src)) NoE) (hck : ∀ K, Ext H K → chk src xs K = true) (hz : xs.length < lid)
    (he : ∀ k x K, xs[k]? = some x → Ext H K → wpE T Φ elt (Γ ++ [some x]) K (fun v K' => ∃ r, P k r ∧ v = .loc (K.length + s) ∧ Ext K K' ∧ K'.length = K.length + s + 1 ∧ K'[K.length + s]? = some (.list r)) NoE)
    (q : ∀ g K, g.length = xs.length → (∀ k r, g[k]? = some r → P k r) → Ext H K → GAt K (H.length + (s + 1) * g.length) (H.length + s) (s + 1) g → K.length = H.length + (s + 1) * g.length + 1 → Q (.loc (H.length + (s + 1) * g.length)) K) : wpE T Φ (.comp elt it .none) Γ H Q E := by
  refine wp_comp (wpE_then hit ?_)
  rintro v H' ⟨e, hi⟩
  rw [e, hi]
  clear e
  refine wp_compN (fun k out K => Ext H K ∧ K.length = H.length + (s + 1) * k ∧ out = (List.range k).map (fun i => Val.loc (H.length + s + (s + 1) * i)) ∧ ∃ g : List (List Val), g.length = k ∧ (∀ j r, g[j]? = some r → P j r ∧ K[H.length + s + (s + 1) * j]? = some (.list r)))
    ⟨Ext.refl H, rfl, rfl, [], rfl, fun j r h => by cases h⟩ ?_ ?_ ?_
  · rintro k out K ⟨e, _⟩; exact hck K e
  · intro k x out K hx zz
    refine aNd4 zz fun e hl zr2 zz => ex1 zz fun g zz => aNd2 zz fun hg hp => ?_; subst zr2
    refine wp_step0 (wpE_then (he k x K hx e) ?_)
    intro v K' zz
    refine ex1 zz fun r zz => aNd5 zz fun pr zr2 e' hl' hr => ?_; subst zr2
    have pos : K.length + s = H.length + s + (s + 1) * k := by exact o161 hl
    refine ⟨e.trans e', by rw [hl', hl, Nat.mul_succ]; exact o162, ?_, g ++ [r], by rw [List.length_append, hg]; rfl, fun j w hj => ?_⟩
    · rw [List.range_succ, List.map_append, pos]; rfl
    · by_cases c : j < g.length
      · rw [List.getElem?_append_left c] at hj
        exact ⟨(hp j w hj).1, e'.get (hp j w hj).2⟩
      · rw [List.getElem?_append_right (by exact o159 hg c)] at hj
        have : j - g.length = 0 := by
          have := (List.getElem?_eq_some_iff.mp hj).1
          simp at this; omega
        rw [this] at hj
        cases hj
        have : j = k := by exact o160 this hg c
        rw [this, ← pos]; exact ⟨pr, hr⟩
  · intro zs K zz
    refine aNd4 zz fun e hl zr2 zz => ex1 zz fun g zz => aNd2 zz fun hg hp => ?_; subst zr2
    have gl : g.length = xs.length := hg
    refine ⟨by rw [List.length_map, List.length_range]; exact hz, ?_⟩
    rw [hl, ← gl]
    refine q g _ gl (fun k r h => (hp k r h).1) (e.new _) ⟨?_, fun i r h => Ext.get ⟨_, rfl⟩ (hp i r h).2⟩ (by rw [List.length_append, hl, ← gl]; rfl)
    have := get_new K (.list ((List.range g.length).map fun i => Val.loc (H.length + s + (s + 1) * i)))
    rw [hl, ← gl] at this
    exact this
theorem it_rng {it : ME} {n : Nat} (hn : n ≤ 1000) (h : wpE T Φ it Γ H (fun v H' => v = .int (n : Int) ∧ H' = H) NoE) : wpE T Φ (.bf .range (.cons it .nil)) Γ H (fun v H' => H' = H ∧ iterOf v H = some (rngL n, none)) NoE := by
  rw [wp_bf, wp_cons]
  refine wpE_then h ?_
  rintro v _ ⟨rfl, rfl⟩
  rw [wp_nil, wv_range]
  exact ⟨⟨by exact o163 hn, by exact o164 hn⟩, rfl, rfl⟩
theorem rngN_get {n k : Nat} {x : Val} (h : (rngL n)[k]? = some x) : x = .int (k : Int) ∧ k < n := by
  obtain ⟨a, b⟩ := rngL_get h
  exact ⟨a, by exact o151 b⟩
theorem rngN_len (n : Nat) : (rngL n).length = n := by rw [rngL_len]; exact o165
theorem wp_copy {it : ME} {k l b s : Nat} {g : List (List Val)} (hk : Γ.length = k) (G : GAt H l b s g) (hz : g.length < lid) (hit : wpE T Φ it Γ H (fun v H' => v = .loc l ∧ H' = H) NoE)
    (q : ∀ K, Ext H K → GAt K (H.length + g.length) H.length 1 g → K.length = H.length + g.length + 1 → Q (.loc (H.length + g.length)) K) : wpE T Φ (.comp (.bf .list (.cons (.var k) .nil)) it .none) Γ H Q E := by
  refine comp_rows (xs := (List.range g.length).map fun i => Val.loc (b + s * i)) (src := some l) 0 (fun j r => g[j]? = some r) (wpE_then hit ?_) (fun K e => chk_list (e.get G.top)) (by rw [List.length_map, List.length_range]; exact hz) ?_ ?_
  · rintro v _ ⟨rfl, rfl⟩; exact ⟨rfl, iter_list G.top⟩
  · intro j x K hx e
    rw [List.getElem?_map] at hx
    cases hj : (List.range g.length)[j]? with
    | none => rw [hj] at hx; exact nomatch hx
    | some i =>
      rw [hj] at hx
      obtain ⟨lt, ej⟩ := List.getElem?_eq_some_iff.mp hj
      rw [List.getElem_range] at ej
      subst ej
      cases hx
      have lt' : j < g.length := by rw [List.length_range] at lt; exact lt
      have hg : g[j]? = some g[j] := List.getElem?_eq_getElem lt'
      have hr := e.get (G.row j _ hg)
      rw [wp_bf, wp_cons, wp_var, getV_get, List.getElem?_append_right (by exact o166 hk), hk, Nat.sub_self]
      have : bfV .list [.loc (b + s * j)] K = .ok (.loc K.length) (K ++ [.list g[j]]) := by
        show (match itemsOf (.loc (b + s * j)) K with | some xs => M.alloc (.list xs) K | none => .bad) = _
        rw [show itemsOf (.loc (b + s * j)) K = some g[j] by simp only [itemsOf, hr]]; rfl
      exact Wp.of_eq this ⟨_, hg, rfl, ⟨_, rfl⟩, by rw [List.length_append]; rfl, get_new K _⟩
  · intro g' K hl hp e G' hK
    have : g' = g := by
      rw [List.length_map, List.length_range] at hl
      refine List.ext_getElem? fun i => ?_
      cases h : g'[i]? with
      | some r => rw [hp i r h]
      | none =>
        rw [List.getElem?_eq_none_iff] at h
        rw [List.getElem?_eq_none (by exact o167 hK hl h)]
    subst this
    rw [Nat.zero_add, Nat.one_mul] at G' hK ⊢
    exact q K e G' hK
end
end Mine.Pure
-- part GT05
namespace Mine
open PySem
noncomputable def f0_05 : MFun := ⟨3, 0, (.cons (.ite (.or (.not (.isinst (.var 0) .int)) (.isinst (.var 0) .bool)) (.cons (.ret (.some (.bool false))) .nil) .nil) (.cons (.ret (.some (.cmp2 .le .le (.var 1) (.var 0) (.var 2)))) .nil))⟩
noncomputable def f1_05 : MFun := ⟨3, 0, (.cons (.ite (.or (.not (.isinst (.var 2) .tuple)) (.cmp .ne (.bf .len (.cons (.var 2) .nil)) (.int 2))) (.cons (.ret (.some (.bool false))) .nil) .nil) (.cons (.ret (.some (.and (.call 0 (.cons (.sub (.var 2) (.int 0)) (.cons (.int 0) (.cons (.bin .sub (.var 0) (.int 1)) .nil)))) (.call 0 (.cons (.sub (.var 2) (.int 1)) (.cons (.int 0) (.cons (.bin .sub (.var 1) (.int 1)) .nil))))))) .nil))⟩
noncomputable def f2_05 : MFun := ⟨2, 3, (.cons (.assign 2 (.list .nil)) (.cons (.each 3 (.bf .range (.cons (.var 0) .nil)) (.cons (.each 4 (.bf .range (.cons (.var 1) .nil)) (.cons (.expr (.bm (.var 2) .append (.cons (.tup (.cons (.var 3) (.cons (.var 4) .nil))) .nil))) .nil)) .nil)) (.cons (.ret (.some (.var 2))) .nil)))⟩
noncomputable def f3_05 : MFun := ⟨1, 0, (.cons (.ret (.some (.or (.cmp .is (.var 0) .none) (.call 0 (.cons (.var 0) (.cons (.int 0) (.cons (.glob 1) .nil))))))) .nil)⟩
noncomputable def f4_05 : MFun := ⟨1, 1, (.cons (.ite (.or (.not (.isinst (.var 0) .list)) (.not (.call 0 (.cons (.bf .len (.cons (.var 0) .nil)) (.cons (.int 1) (.cons (.glob 0) .nil)))))) (.cons (.raise 1 "a list of rows is wanted") .nil) .nil) (.cons (.each 1 (.var 0) (.cons (.ite (.or (.not (.isinst (.var 1) .list)) (.not (.call 0 (.cons (.bf .len (.cons (.var 1) .nil)) (.cons (.int 1) (.cons (.glob 0) .nil)))))) (.cons (.raise 1 "a row is a list of heights") .nil) .nil) .nil)) (.cons (.each 1 (.var 0) (.cons (.ite (.cmp .ne (.bf .len (.cons (.var 1) .nil)) (.bf .len (.cons (.sub (.var 0) (.int 0)) .nil))) (.cons (.raise 1 "all rows are as long") .nil) .nil) .nil)) .nil)))⟩
noncomputable def f5_05 : MFun := ⟨2, 0, (.cons (.ite (.cmp .lt (.var 1) (.bf .len (.cons (.var 0) .nil))) (.cons (.ret (.some (.sub (.var 0) (.var 1)))) .nil) .nil) (.cons (.ret (.some (.int 0))) .nil))⟩
noncomputable def f6_05 : MFun := ⟨1, 0, (.cons (.ret (.some (.and (.isinst (.var 0) .int) (.not (.isinst (.var 0) .bool))))) .nil)⟩
noncomputable def f7_05 : MFun := ⟨2, 2, (.cons (.ite (.or (.not (.isinst (.var 0) .list)) (.cmp .ne (.bf .len (.cons (.var 0) .nil)) (.bf .len (.cons (.var 1) .nil)))) (.cons (.ret (.some (.bool false))) .nil) .nil) (.cons (.eachZip 2 3 (.var 0) (.var 1) (.cons (.ite (.or (.not (.isinst (.var 2) .tuple)) (.or (.cmp .ne (.bf .len (.cons (.var 2) .nil)) (.int 2)) (.or (.not (.call 6 (.cons (.sub (.var 2) (.int 0)) .nil))) (.not (.call 6 (.cons (.sub (.var 2) (.int 1)) .nil)))))) (.cons (.ret (.some (.bool false))) .nil) .nil) (.cons (.ite (.or (.cmp .ne (.sub (.var 2) (.int 0)) (.sub (.var 3) (.int 0))) (.cmp .ne (.sub (.var 2) (.int 1)) (.sub (.var 3) (.int 1)))) (.cons (.ret (.some (.bool false))) .nil) .nil) .nil))) (.cons (.ret (.some (.bool true))) .nil)))⟩
noncomputable def f8_05 : MFun := ⟨1, 0, (.cons (.ite (.cmp .eq (.bin .mod (.bin .fdiv (.var 0) (.int 20)) (.int 8)) (.int 1)) (.cons (.ret (.some (.sub (.list (.cons (.tup (.cons (.int 1) (.cons (.int 30) .nil))) (.cons (.tup (.cons (.int 30) (.cons (.int 1) .nil))) (.cons (.tup (.cons (.int 5) (.cons (.int 5) .nil))) (.cons (.tup (.cons (.int 2) (.cons (.int 12) .nil))) (.cons (.tup (.cons (.int 2) (.cons (.int 30) .nil))) (.cons (.tup (.cons (.int 30) (.cons (.int 2) .nil))) (.cons (.tup (.cons (.int 6) (.cons (.int 7) .nil))) (.cons (.tup (.cons (.int 7) (.cons (.int 9) .nil))) .nil))))))))) (.bin .mod (.bin .fdiv (.var 0) (.int 160)) (.int 8))))) .nil) .nil) (.cons (.ret (.some (.tup (.cons (.bin .add (.int 1) (.bin .mod (.var 0) (.int 4))) (.cons (.bin .add (.int 1) (.bin .mod (.bin .fdiv (.var 0) (.int 4)) (.int 5))) .nil))))) .nil))⟩
noncomputable def f9_05 : MFun := ⟨2, 0, (.cons (.ite (.cmp .eq (.bin .mod (.var 0) (.int 9)) (.int 8)) (.cons (.ret (.some .none)) .nil) .nil) (.cons (.ite (.cmp .eq (.var 1) (.int 0)) (.cons (.ret (.some (.bin .mod (.bin .fdiv (.var 0) (.int 9)) (.int 3)))) .nil) .nil) (.cons (.ite (.cmp .eq (.var 1) (.int 1)) (.cons (.ret (.some (.bin .mod (.bin .fdiv (.var 0) (.int 9)) (.int 12)))) .nil) .nil) (.cons (.ite (.cmp .eq (.var 1) (.int 2)) (.cons (.ret (.some (.bin .mod (.bin .fdiv (.var 0) (.int 9)) (.int 1000000001)))) .nil) .nil) (.cons (.ret (.some (.bin .sub (.int 1000000000) (.bin .mod (.bin .fdiv (.var 0) (.int 9)) (.int 2))))) .nil)))))⟩
noncomputable def f10_05 : MFun := ⟨2, 0, (.cons (.ite (.cmp .lt (.bin .add (.var 1) (.int 3)) (.bf .len (.cons (.var 0) .nil))) (.cons (.ret (.some (.sub (.var 0) (.bin .add (.var 1) (.int 3))))) .nil) .nil) (.cons (.ret (.some (.bin .add (.bin .add (.bin .mul (.int 7) (.call 5 (.cons (.var 0) (.cons (.int 1) .nil)))) (.bin .mul (.bin .mul (.call 5 (.cons (.var 0) (.cons (.int 2) .nil))) (.var 1)) (.var 1))) (.bin .mul (.int 13) (.var 1))))) .nil))⟩
noncomputable def f11_05 : MFun := ⟨1, 5, (.cons (.assign 1 (.call 8 (.cons (.call 5 (.cons (.var 0) (.cons (.int 0) .nil))) .nil))) (.cons (.assign 2 (.bin .mod (.call 5 (.cons (.var 0) (.cons (.int 1) .nil))) (.int 4))) (.cons (.assign 3 (.list .nil)) (.cons (.each 4 (.bf .range (.cons (.sub (.var 1) (.int 0)) .nil)) (.cons (.assign 5 (.comp (.call 10 (.cons (.var 0) (.cons (.bin .add (.bin .mul (.var 4) (.sub (.var 1) (.int 1))) (.var 6)) .nil))) (.bf .range (.cons (.sub (.var 1) (.int 1)) .nil)) .none)) (.cons (.expr (.bm (.var 3) .append (.cons (.comp (.call 9 (.cons (.var 6) (.cons (.var 2) .nil))) (.var 5) .none) .nil))) .nil))) (.cons (.ret (.some (.var 3))) .nil)))))⟩
noncomputable def f12_05 : MFun := ⟨2, 6, (.cons (.assign 2 (.call 5 (.cons (.var 0) (.cons (.int 2) .nil)))) (.cons (.assign 3 (.sub (.list (.cons (.int 2) (.cons (.int 3) (.cons (.int 5) (.cons (.int 9) (.cons (.int 14) .nil)))))) (.bin .mod (.bin .fdiv (.var 2) (.int 60)) (.int 5)))) (.cons (.assign 4 (.list .nil)) (.cons (.each 5 (.bf .range (.cons (.bf .len (.cons (.var 1) .nil)) .nil)) (.cons (.each 6 (.bf .range (.cons (.bf .len (.cons (.sub (.var 1) (.int 0)) .nil)) .nil)) (.cons (.assign 7 (.bin .add (.bin .mul (.var 5) (.bf .len (.cons (.sub (.var 1) (.int 0)) .nil))) (.var 6))) (.cons (.ite (.and (.cmp .isNot (.sub (.sub (.var 1) (.var 5)) (.var 6)) .none) (.cmp .eq (.bin .mod (.bin .add (.var 2) (.bin .mul (.var 7) (.bin .add (.int 1) (.bin .mod (.bin .fdiv (.var 2) (.int 12)) (.int 5))))) (.var 3)) (.int 0))) (.cons (.expr (.bm (.var 4) .append (.cons (.tup (.cons (.var 5) (.cons (.var 6) .nil))) .nil))) .nil) .nil) .nil))) .nil)) (.cons (.ret (.some (.var 4))) .nil)))))⟩
noncomputable def f13_05 : MFun := ⟨2, 2, (.cons (.assign 2 (.new 7 (.cons (.comp (.bf .list (.cons (.var 4) .nil)) (.var 0) .none) .nil))) (.cons (.each 3 (.var 1) (.cons (.expr (.umeth (.var 2) 5 (.cons (.var 3) .nil))) .nil)) (.cons (.ret (.some (.var 2))) .nil)))⟩
noncomputable def f14_05 : MFun := ⟨1, 1, (.cons (.assign 1 (.str "")) (.cons (.ite (.isinst (.var 0) (.cls 1)) (.cons (.assign 1 (.bin .add (.var 1) (.str "land "))) .nil) .nil) (.cons (.ite (.isinst (.var 0) (.cls 2)) (.cons (.assign 1 (.bin .add (.var 1) (.str "height "))) .nil) .nil) (.cons (.ite (.isinst (.var 0) (.cls 3)) (.cons (.assign 1 (.bin .add (.var 1) (.str "cell "))) .nil) .nil) (.cons (.ite (.isinst (.var 0) (.cls 4)) (.cons (.assign 1 (.bin .add (.var 1) (.str "drain "))) .nil) .nil) (.cons (.ite (.isinst (.var 0) (.cls 5)) (.cons (.assign 1 (.bin .add (.var 1) (.str "way "))) .nil) .nil) (.cons (.ite (.isinst (.var 0) (.cls 6)) (.cons (.assign 1 (.bin .add (.var 1) (.str "rain "))) .nil) .nil) (.cons (.ite (.isinst (.var 0) (.cls 8)) (.cons (.ret (.some (.bm (.var 1) .rstrip .nil))) .nil) .nil) (.cons (.ret (.some (.str "another base"))) .nil)))))))))⟩
noncomputable def f15_05 : MFun := ⟨4, 1, (.cons (.tryx (.cons (.ite (.cmp .eq (.var 1) (.int 0)) (.cons (.ret (.some (.umeth (.var 0) 4 (.cons (.var 2) (.cons (.var 3) .nil))))) .nil) .nil) (.cons (.ite (.cmp .eq (.var 1) (.int 1)) (.cons (.ret (.some (.umeth (.var 0) 5 (.cons (.var 2) .nil)))) .nil) .nil) (.cons (.ite (.cmp .eq (.var 1) (.int 2)) (.cons (.ret (.some (.umeth (.var 0) 6 (.cons (.var 2) .nil)))) .nil) .nil) (.cons (.ite (.cmp .eq (.var 1) (.int 3)) (.cons (.ret (.some (.umeth (.var 0) 3 (.cons (.var 2) .nil)))) .nil) .nil) (.cons (.ret (.some (.umeth (.var 0) 2 (.cons (.var 2) .nil)))) .nil))))) (.cons 0 (some 4) (.cons (.ret (.some (.call 14 (.cons (.var 4) .nil)))) .nil) .nil)) .nil)⟩
noncomputable def f16_05 : MFun := ⟨2, 0, (.cons (.ite (.or (.not (.isinst (.var 0) .tuple)) (.or (.cmp .ne (.bf .len (.cons (.var 0) .nil)) (.int 2)) (.or (.not (.call 6 (.cons (.sub (.var 0) (.int 0)) .nil))) (.not (.call 6 (.cons (.sub (.var 0) (.int 1)) .nil)))))) (.cons (.ret (.some (.bool false))) .nil) .nil) (.cons (.ret (.some (.and (.cmp2 .le .lt (.int 0) (.sub (.var 0) (.int 0)) (.bf .len (.cons (.var 1) .nil))) (.cmp2 .le .lt (.int 0) (.sub (.var 0) (.int 1)) (.bf .len (.cons (.sub (.var 1) (.int 0)) .nil)))))) .nil))⟩
noncomputable def f17_05 : MFun := ⟨5, 0, (.cons (.ite (.not (.call 16 (.cons (.var 3) (.cons (.var 0) .nil)))) (.cons (.ret (.some (.str "cell"))) .nil) .nil) (.cons (.ite (.cmp .eq (.var 2) (.int 0)) (.cons (.ite (.and (.cmp .isNot (.var 4) .none) (.or (.not (.call 6 (.cons (.var 4) .nil))) (.not (.cmp2 .le .le (.int 0) (.var 4) (.int 1000000000))))) (.cons (.ret (.some (.str "height"))) .nil) .nil) (.cons (.setitem (.sub (.var 0) (.sub (.var 3) (.int 0))) (.sub (.var 3) (.int 1)) (.var 4)) (.cons (.ite (.and (.cmp .is (.var 4) .none) (.cmp .isin (.var 3) (.var 1))) (.cons (.expr (.bm (.var 1) .remove (.cons (.var 3) .nil))) .nil) .nil) (.cons (.ret (.some .none)) .nil)))) .nil) (.cons (.ite (.cmp .eq (.var 2) (.int 1)) (.cons (.ite (.cmp .is (.sub (.sub (.var 0) (.sub (.var 3) (.int 0))) (.sub (.var 3) (.int 1))) .none) (.cons (.ret (.some (.str "drain"))) .nil) .nil) (.cons (.ite (.cmp .notin (.var 3) (.var 1)) (.cons (.expr (.bm (.var 1) .append (.cons (.var 3) .nil))) .nil) .nil) (.cons (.ret (.some .none)) .nil))) .nil) (.cons (.ite (.cmp .eq (.var 2) (.int 2)) (.cons (.ite (.cmp .notin (.var 3) (.var 1)) (.cons (.ret (.some (.str "drain"))) .nil) .nil) (.cons (.expr (.bm (.var 1) .remove (.cons (.var 3) .nil))) (.cons (.ret (.some .none)) .nil))) .nil) (.cons (.ite (.cmp .eq (.var 2) (.int 3)) (.cons (.ret (.some (.cmp .isin (.var 3) (.var 1)))) .nil) .nil) (.cons (.ret (.some (.sub (.sub (.var 0) (.sub (.var 3) (.int 0))) (.sub (.var 3) (.int 1))))) .nil))))))⟩
noncomputable def f18_05 : MFun := ⟨2, 0, (.cons (.ite (.cmp .is (.var 1) .none) (.cons (.ret (.some (.cmp .is (.var 0) .none))) .nil) .nil) (.cons (.ite (.isinst (.var 1) .bool) (.cons (.ret (.some (.and (.isinst (.var 0) .bool) (.cmp .eq (.var 0) (.var 1))))) .nil) .nil) (.cons (.ite (.isinst (.var 1) .str) (.cons (.ret (.some (.and (.isinst (.var 0) .str) (.cmp .eq (.var 0) (.var 1))))) .nil) .nil) (.cons (.ret (.some (.and (.call 6 (.cons (.var 0) .nil)) (.cmp .eq (.var 0) (.var 1))))) .nil))))⟩
noncomputable def f19_05 : MFun := ⟨4, 7, (.cons (.assign 4 (.bin .mod (.var 3) (.int 5))) (.cons (.assign 5 (.bin .sub (.bin .mod (.bin .fdiv (.var 3) (.int 5)) (.bin .add (.bf .len (.cons (.var 1) .nil)) (.int 2))) (.int 1))) (.cons (.assign 6 (.bin .sub (.bin .mod (.bin .fdiv (.var 3) (.int 160)) (.bin .add (.bf .len (.cons (.sub (.var 1) (.int 0)) .nil)) (.int 2))) (.int 1))) (.cons (.assign 7 (.tup (.cons (.var 5) (.cons (.var 6) .nil)))) (.cons (.ite (.cmp .eq (.bin .mod (.bin .fdiv (.var 3) (.int 7)) (.int 9)) (.int 0)) (.cons (.assign 8 (.list (.cons (.list (.cons (.var 5) (.cons (.var 6) .nil))) (.cons (.tup (.cons (.var 5) (.cons (.var 6) (.cons (.int 0) .nil)))) (.cons (.tup (.cons (.bool true) (.cons (.int 0) .nil))) (.cons (.tup (.cons (.int 0) (.cons (.bool false) .nil))) (.cons (.tup (.cons (.var 5) .nil)) (.cons .none (.cons (.tup (.cons (.str "0") (.cons (.int 0) .nil))) (.cons (.tup (.cons (.int 0) (.cons .none .nil))) (.cons (.tup (.cons (.tup (.cons (.int 0) (.cons (.int 0) .nil))) (.cons (.int 0) .nil))) .nil))))))))))) (.cons (.assign 7 (.sub (.var 8) (.bin .mod (.bin .fdiv (.var 3) (.int 63)) (.int 9)))) .nil)) .nil) (.cons (.ite (.and (.cmp .gt (.bf .len (.cons (.var 2) .nil)) (.int 0)) (.cmp .gt (.bin .mod (.bin .fdiv (.var 3) (.int 7)) (.int 9)) (.int 5))) (.cons (.assign 7 (.sub (.var 2) (.bin .mod (.bin .fdiv (.var 3) (.int 63)) (.bf .len (.cons (.var 2) .nil))))) .nil) .nil) (.cons (.assign 9 (.sub (.list (.cons .none (.cons (.int 0) (.cons (.bin .mod (.bin .fdiv (.var 3) (.int 13)) (.int 1000000001)) (.cons (.int 1000000000) (.cons (.int 1000000001) (.cons (.neg (.int 1)) (.cons (.bool true) (.cons (.str "2") .nil))))))))) (.bin .mod (.bin .fdiv (.var 3) (.int 11)) (.int 8)))) (.cons (.ite (.cmp .eq (.bin .mod (.bin .fdiv (.var 3) (.int 3)) (.int 7)) (.int 6)) (.cons (.ite (.not (.call 18 (.cons (.call 15 (.cons (.var 0) (.cons (.int 0) (.cons (.var 7) (.cons .none .nil))))) (.cons (.call 17 (.cons (.var 1) (.cons (.var 2) (.cons (.int 0) (.cons (.var 7) (.cons .none .nil)))))) .nil)))) (.cons (.ret (.some (.bool false))) .nil) .nil) (.cons (.assign 4 (.int 0)) (.cons (.assign 9 (.bin .mod (.bin .fdiv (.var 3) (.int 13)) (.int 1000000001))) .nil))) .nil) (.cons (.assign 10 (.call 17 (.cons (.var 1) (.cons (.var 2) (.cons (.var 4) (.cons (.var 7) (.cons (.var 9) .nil))))))) (.cons (.ite (.not (.call 18 (.cons (.call 15 (.cons (.var 0) (.cons (.var 4) (.cons (.var 7) (.cons (.var 9) .nil))))) (.cons (.var 10) .nil)))) (.cons (.ret (.some (.bool false))) .nil) .nil) (.cons (.expr (.bm (.umeth (.var 0) 7 .nil) .append (.cons (.tup (.cons (.int 0) (.cons (.int 0) .nil))) .nil))) (.cons (.ret (.some (.and (.call 7 (.cons (.umeth (.var 0) 7 .nil) (.cons (.bf .sorted (.cons (.var 2) .nil)) .nil))) (.cmp .eq (.umeth (.var 0) 8 .nil) (.var 1))))) .nil))))))))))))⟩
noncomputable def f20_05 : MFun := ⟨1, 8, (.cons (.assign 1 (.call 11 (.cons (.var 0) .nil))) (.cons (.assign 2 (.comp (.bf .list (.cons (.var 9) .nil)) (.var 1) .none)) (.cons (.assign 3 (.call 12 (.cons (.var 0) (.cons (.var 1) .nil)))) (.cons (.assign 4 (.list .nil)) (.cons (.assign 5 (.call 13 (.cons (.var 1) (.cons (.var 3) .nil)))) (.cons (.assign 6 (.call 13 (.cons (.var 1) (.cons (.list .nil) .nil)))) (.cons (.eachEnum 7 8 (.slice (.var 0) (.some (.neg (.int 20))) .none) (.cons (.ite (.cmp .lt (.bin .mod (.var 7) (.int 3)) (.int 2)) (.cons (.ite (.not (.call 19 (.cons (.var 5) (.cons (.var 1) (.cons (.var 3) (.cons (.bin .add (.var 8) (.bin .mul (.int 11) (.var 7))) .nil)))))) (.cons (.ret (.some (.bool false))) .nil) .nil) .nil) (.cons (.ite (.not (.call 19 (.cons (.var 6) (.cons (.var 2) (.cons (.var 4) (.cons (.var 8) .nil)))))) (.cons (.ret (.some (.bool false))) .nil) .nil) .nil)) .nil)) (.cons (.ite (.or (.not (.call 7 (.cons (.umeth (.var 6) 7 .nil) (.cons (.bf .sorted (.cons (.var 4) .nil)) .nil)))) (.cmp .ne (.umeth (.var 6) 8 .nil) (.var 2))) (.cons (.ret (.some (.bool false))) .nil) .nil) (.cons (.ret (.some (.and (.call 7 (.cons (.umeth (.var 5) 7 .nil) (.cons (.bf .sorted (.cons (.var 3) .nil)) .nil))) (.cmp .eq (.umeth (.var 5) 8 .nil) (.var 1))))) .nil)))))))))⟩
noncomputable def f21_05 : MFun := ⟨2, 2, (.cons (.expr (.call 4 (.cons (.var 1) .nil))) (.cons (.each 2 (.var 1) (.cons (.each 3 (.var 2) (.cons (.ite (.not (.call 3 (.cons (.var 3) .nil))) (.cons (.raise 2 "a height or None is wanted") .nil) .nil) .nil)) .nil)) (.cons (.setattr (.var 0) 0 (.bf .len (.cons (.var 1) .nil))) (.cons (.setattr (.var 0) 1 (.bf .len (.cons (.sub (.var 1) (.int 0)) .nil))) (.cons (.setattr (.var 0) 2 (.comp (.bf .list (.cons (.var 4) .nil)) (.var 1) .none)) (.cons (.setattr (.var 0) 3 .dict) .nil))))))⟩
noncomputable def f22_05 : MFun := ⟨2, 0, (.cons (.ite (.not (.call 1 (.cons (.attr (.var 0) 0) (.cons (.attr (.var 0) 1) (.cons (.var 1) .nil))))) (.cons (.raise 3 "no such cell") .nil) .nil) .nil)⟩
noncomputable def f23_05 : MFun := ⟨2, 0, (.cons (.expr (.umeth (.var 0) 1 (.cons (.var 1) .nil))) (.cons (.ret (.some (.sub (.sub (.attr (.var 0) 2) (.sub (.var 1) (.int 0))) (.sub (.var 1) (.int 1))))) .nil))⟩
noncomputable def f24_05 : MFun := ⟨2, 0, (.cons (.expr (.umeth (.var 0) 1 (.cons (.var 1) .nil))) (.cons (.ret (.some (.cmp .isin (.var 1) (.attr (.var 0) 3)))) .nil))⟩
noncomputable def f25_05 : MFun := ⟨3, 0, (.cons (.expr (.umeth (.var 0) 1 (.cons (.var 1) .nil))) (.cons (.ite (.not (.call 3 (.cons (.var 2) .nil))) (.cons (.raise 2 "a height or None is wanted") .nil) .nil) (.cons (.setitem (.sub (.attr (.var 0) 2) (.sub (.var 1) (.int 0))) (.sub (.var 1) (.int 1)) (.var 2)) (.cons (.ite (.and (.cmp .is (.var 2) .none) (.cmp .isin (.var 1) (.attr (.var 0) 3))) (.cons (.expr (.bm (.attr (.var 0) 3) .dpop (.cons (.var 1) .nil))) .nil) .nil) .nil))))⟩
noncomputable def f26_05 : MFun := ⟨2, 0, (.cons (.expr (.umeth (.var 0) 1 (.cons (.var 1) .nil))) (.cons (.ite (.cmp .is (.sub (.sub (.attr (.var 0) 2) (.sub (.var 1) (.int 0))) (.sub (.var 1) (.int 1))) .none) (.cons (.raise 4 "stone is no drain") .nil) .nil) (.cons (.setitem (.attr (.var 0) 3) (.var 1) (.bool true)) .nil)))⟩
noncomputable def f27_05 : MFun := ⟨2, 0, (.cons (.expr (.umeth (.var 0) 1 (.cons (.var 1) .nil))) (.cons (.ite (.cmp .notin (.var 1) (.attr (.var 0) 3)) (.cons (.raise 4 "no drain") .nil) .nil) (.cons (.expr (.bm (.attr (.var 0) 3) .dpop (.cons (.var 1) .nil))) .nil)))⟩
noncomputable def f28_05 : MFun := ⟨1, 0, (.cons (.ret (.some (.comp (.var 1) (.call 2 (.cons (.attr (.var 0) 0) (.cons (.attr (.var 0) 1) .nil))) (.some (.cmp .isin (.var 1) (.attr (.var 0) 3)))))) .nil)⟩
noncomputable def f29_05 : MFun := ⟨1, 0, (.cons (.ret (.some (.comp (.bf .list (.cons (.var 1) .nil)) (.attr (.var 0) 2) .none))) .nil)⟩
noncomputable def T_05 : Tab := ⟨[f0_05, f1_05, f2_05, f3_05, f4_05, f5_05, f6_05, f7_05, f8_05, f9_05, f10_05, f11_05, f12_05, f13_05, f14_05, f15_05, f16_05, f17_05, f18_05, f19_05, f20_05, f21_05, f22_05, f23_05, f24_05, f25_05, f26_05, f27_05, f28_05, f29_05], [[], [], [], [], [], [], [], [(0, 21), (1, 22), (2, 23), (3, 24), (4, 25), (5, 26), (6, 27), (7, 28), (8, 29)], []], [[0, 8], [1, 0, 8], [2, 0, 8], [3, 0, 8], [4, 0, 8], [5, 0, 8], [6, 0, 8], [7], [8]], [.int 30, .int 1000000000]⟩
noncomputable def N_05 : Names := ⟨[("whole", 0), ("lies_in", 1), ("all_cells", 2), ("is_height", 3), ("look_at_rows", 4), ("_law_cell_at", 5), ("_law_whole", 6), ("_law_same_cells", 7), ("_law_size", 8), ("_law_height_by", 9), ("_law_number", 10), ("_law_grid", 11), ("_law_drains", 12), ("_law_land", 13), ("_law_word_of", 14), ("_law_said", 15), ("_law_is_cell", 16), ("_law_due", 17), ("_law_alike", 18), ("_law_deed", 19), ("law", 20)], [("LandError", 0), ("NoLand", 1), ("NoHeight", 2), ("NoCell", 3), ("NoDrain", 4), ("NoWay", 5), ("NoRain", 6), ("Land", 7), ("ValueError", 8)], [("MOST_SIDE", 0), ("MOST_HEIGHT", 1)], [("rows", 0), ("columns", 1), ("grid", 2), ("sinks", 3)], [("__init__", 0), ("look_at", 1), ("height", 2), ("is_drain", 3), ("raised", 4), ("opened", 5), ("shut", 6), ("drains", 7), ("heights", 8)]⟩
noncomputable def V_05 : List (List Str) := [["thing", "low", "high"], ["rows", "columns", "cell"], ["rows", "columns", "found", "row", "column"], ["thing"], ["heights", "row"], ["_law_script", "_law_k"], ["_law_found"], ["_law_found", "_law_due_here", "_law_one", "_law_cell"], ["_law_cell"], ["_law_number_here", "_law_kind"], ["_law_script", "_law_k"], ["_law_script", "_law_size_here", "_law_kind", "_law_rows", "_law_row", "_law_numbers"], ["_law_script", "_law_rows", "_law_cell", "_law_every", "_law_found", "_law_row", "_law_column", "_law_at"], ["_law_rows", "_law_drains_here", "_law_land_here", "_law_cell"], ["_law_error", "_law_word"], ["_law_land_here", "_law_kind", "_law_cell", "_law_height", "_law_error"], ["_law_thing", "_law_rows"], ["_law_rows", "_law_drains_here", "_law_kind", "_law_cell", "_law_height"], ["_law_found", "_law_due_here"], ["_law_land_here", "_law_rows", "_law_drains_here", "_law_cell", "_law_kind", "_law_row", "_law_column", "_law_place", "_law_some", "_law_height", "_law_due_here"], ["_law_script", "_law_rows", "_law_other_rows", "_law_drains_here", "_law_other_drains", "_law_land_here", "_law_other", "_law_k", "_law_cell"], ["self", "heights", "row", "one"], ["self", "cell"], ["self", "cell"], ["self", "cell"], ["self", "cell", "height"], ["self", "cell"], ["self", "cell"], ["self"], ["self"]]
end Mine
-- part L5A
namespace Mine.Pure
open PySem
theorem getV_of {Γ : Env'} {i : Nat} {v : Val} {k : Val → Prop} (h : Γ[i]? = some (some v)) : getV Γ i k = k v := by rw [getV_get, h]; rfl
theorem hide3 {α β γ : Type} (p : α → β → γ → Prop) : ∃ q : α → β → γ → Prop, ∀ a b c, q a b c ↔ p a b c := ⟨p, fun _ _ _ => Iff.rfl⟩
section
variable {H : Hp} {Q : Val → Hp → Prop} {E : Nat → Hp → Prop} {d : Nat}
noncomputable def HV (v : Val) : Prop := v = .none ∨ ∃ i : Int, v = .int i ∧ 0 ≤ i ∧ i ≤ 1000000000
theorem globs_0 : T_05.globs[0]? = some (.int 30) := rfl
theorem globs_1 : T_05.globs[1]? = some (.int 1000000000) := rfl
theorem l05_whole {x lo hi : Int} (h1 : lo ≤ x) (h2 : x ≤ hi) : Wp (callF T_05 (d + 1) 0 [.int x, .int lo, .int hi]) H Q E = Q (.bool true) H := by
  rw [wp_call (g := f0_05) rfl rfl, f0_05]
  simp only [List.map_cons, List.map_nil, List.replicate_zero, List.cons_append, List.nil_append, ↓wps_cons, ↓wps_ite, ↓wp_or, ↓wp_not, ↓wp_isinst, ↓wp_var, ↓getV_zero, ↓wi_int_int, ↓asBool_bool, ↓brB_not, ↓brB_true, ↓wi_int_bool, ↓brB_false, ↓wps_nil, ↓wps_ret, ↓wp_oSome, ↓wp_cmp2, ↓getV_succ, ↓go_le, decide_eq_true h1, decide_eq_true h2]
theorem l05_lies {r c i j : Int} (h1 : 0 ≤ i) (h2 : i < r) (h3 : 0 ≤ j) (h4 : j < c) : Wp (callF T_05 (d + 2) 1 [.int r, .int c, .tup [.int i, .int j]]) H Q E = Q (.bool true) H := by
  rw [wp_call (g := f1_05) rfl rfl, f1_05]
  simp only [List.map_cons, List.map_nil, List.replicate_zero, List.cons_append, List.nil_append, ↓wps_cons, ↓wps_ite, ↓wp_or, ↓wp_not, ↓wp_isinst, ↓wp_var, ↓getV_succ, ↓getV_zero, ↓wi_tup_tup, ↓asBool_bool, ↓brB_not, ↓brB_true, ↓wp_cmp, ↓wp_bf, ↓wp_cons, ↓wp_nil, ↓wv_len_tup, ↓wp_int, ↓go_ne, ↓wps_nil, ↓wps_ret, ↓wp_oSome, ↓wp_and, ↓wp_callE, ↓wp_sub, ↓ws_tup0, ↓wp_bin, ↓wv_sub, ↓ws_tup1, ↓wp_bool]
  rw [l05_whole h1 (by exact o168 h2), asBool_bool, brB_true, l05_whole h3 (by exact o168 h4)]
  rfl
theorem l05_height {v : Val} (h : HV v) : Wp (callF T_05 (d + 2) 3 [v]) H Q E = Q (.bool true) H := by
  rw [wp_call (g := f3_05) rfl rfl, f3_05]
  rcases h with rfl | ⟨i, rfl, h1, h2⟩
  · simp only [List.map_cons, List.map_nil, List.replicate_zero, List.cons_append, List.nil_append, ↓wps_cons, ↓wps_ret, ↓wp_oSome, ↓wp_or, ↓wp_cmp, ↓wp_var, ↓getV_zero, ↓wp_none, ↓go_isNone_none, ↓asBool_bool, ↓brB_true]
  · simp only [List.map_cons, List.map_nil, List.replicate_zero, List.cons_append, List.nil_append, ↓wps_cons, ↓wps_ret, ↓wp_oSome, ↓wp_or, ↓wp_cmp, ↓wp_var, ↓getV_zero, ↓wp_none, ↓go_isNone_int, ↓asBool_bool, ↓brB_false, ↓wp_callE, ↓wp_cons, ↓wp_int, ↓wp_glob, globs_1, ↓wp_nil, ↓getO_some]
    exact l05_whole h1 h2
end
noncomputable def cellAt (ns : List Int) (k : Nat) : Int := ns.getD k 0
section
variable {H : Hp} {Q : Val → Hp → Prop} {E : Nat → Hp → Prop} {d : Nat}
theorem ws_script {ns : List Int} {k : Nat} (h : k < ns.length) : Wp (subV (.script ns) (.int (k : Int))) H Q E = Q (.int (ns.getD k 0)) H := by
  have e : ns[k]? = some (ns.getD k 0) := by rw [List.getD_eq_getElem?_getD, List.getElem?_eq_getElem h]; rfl
  rw [sub_script e]; rfl
theorem l05_cell (ns : List Int) (k : Nat) : Wp (callF T_05 (d + 1) 5 [.script ns, .int (k : Int)]) H Q E = Q (.int (cellAt ns k)) H := by
  rw [wp_call (g := f5_05) rfl rfl, f5_05]
  simp only [List.map_cons, List.map_nil, List.replicate_zero, List.cons_append, List.nil_append, ↓wps_cons, ↓wps_ite, ↓wp_cmp, ↓wp_var, ↓getV_succ, ↓getV_zero, ↓wp_bf, ↓wp_cons, ↓wp_nil, ↓wv_len_script, ↓go_lt, ↓asBool_bool, ↓wps_ret, ↓wp_oSome, ↓wp_sub, ↓wps_nil, ↓wp_int]
  by_cases q : (k : Int) < ns.length
  · rw [brB_pos q, ws_script (by exact o151 q)]; rfl
  · rw [brB_neg q]
    show Q (.int 0) H = _
    rw [show cellAt ns k = 0 by unfold cellAt; rw [List.getD_eq_getElem?_getD, List.getElem?_eq_none (by exact o169 q)]; rfl]
noncomputable def OkS (r c : Nat) : Prop := 1 ≤ r ∧ r ≤ 30 ∧ 1 ≤ c ∧ c ≤ 30
theorem fmod_nat (a : Int) (n : Nat) (h : 0 < n) : ∃ k : Nat, Int.fmod a n = k ∧ k < n := by
  have h1 := Int.fmod_nonneg_of_pos a (show (0 : Int) < n by exact o170 h)
  have h2 := Int.fmod_lt_of_pos a (show (0 : Int) < n by exact o170 h)
  exact ⟨(Int.fmod a n).toNat, by exact o171 h1, by exact o172 h1 h2⟩
theorem brB_imp {b : Bool} {A B A' B' : Prop} (h : brB b A B) (h1 : A → A') (h2 : B → B') : brB b A' B' := by
  cases b
  · exact h2 h
  · exact h1 h
theorem l05_by (n : Int) (k : Int) (hk : 0 ≤ k) : ∃ v, HV v ∧ ∀ (H : Hp), Wp (callF T_05 (d + 1) 9 [.int n, .int k]) H (fun w H' => w = v ∧ H' = H) NoE := by
  refine ex1 (fmod_nat (Int.fdiv n 9) 3 (by decide)) fun a zz => aNd2 zz fun ha la => ?_
  refine ex1 (fmod_nat (Int.fdiv n 9) 12 (by decide)) fun b zz => aNd2 zz fun hb lb => ?_
  refine ex1 (fmod_nat (Int.fdiv n 9) 1000000001 (by decide)) fun c zz => aNd2 zz fun hc lc => ?_
  refine ex1 (fmod_nat (Int.fdiv n 9) 2 (by decide)) fun e zz => aNd2 zz fun he le => ?_
  have st : ∀ (v : Val) (H : Hp), brB (decide (Int.fmod n 9 = 8)) (Val.none = v) (brB (decide (k = 0)) (Val.int a = v) (brB (decide (k = 1)) (Val.int b = v) (brB (decide (k = 2)) (Val.int c = v) (Val.int (1000000000 - e) = v)))) → Wp (callF T_05 (d + 1) 9 [.int n, .int k]) H (fun w H' => w = v ∧ H' = H) NoE := fun v H h => by
    rw [wp_call (g := f9_05) rfl rfl, f9_05]
    refine ⟨by decide, ?_⟩
    show brB (decide (Int.fmod n 9 = 8)) (Val.none = v ∧ H = H) (brB (decide (k = 0)) (_ ∧ _ ∧ (Val.int (Int.fmod (Int.fdiv n 9) ((3 : Nat) : Int)) = v ∧ H = H)) (brB (decide (k = 1)) (_ ∧ _ ∧ (Val.int (Int.fmod (Int.fdiv n 9) ((12 : Nat) : Int)) = v ∧ H = H)) (brB (decide (k = 2)) (_ ∧ _ ∧ (Val.int (Int.fmod (Int.fdiv n 9) ((1000000001 : Nat) : Int)) = v ∧ H = H)) (_ ∧ _ ∧ (Val.int (1000000000 - Int.fmod (Int.fdiv n 9) ((2 : Nat) : Int)) = v ∧ H = H)))))
    rw [ha, hb, hc, he]
    refine brB_imp h (fun h => ⟨h, rfl⟩) fun h => brB_imp h (fun h => ⟨by decide, by decide, h, rfl⟩) fun h => brB_imp h (fun h => ⟨by decide, by decide, h, rfl⟩) fun h => brB_imp h (fun h => ⟨by decide, by decide, h, rfl⟩) fun h => ⟨by decide, by decide, h, rfl⟩
  by_cases q : Int.fmod n 9 = 8
  · exact ⟨.none, .inl rfl, fun H => st _ H (by rw [brB_pos q])⟩
  by_cases q0 : k = 0
  · exact ⟨.int a, .inr ⟨a, rfl, by exact o173 la, by exact o174 la⟩, fun H => st _ H (by rw [brB_neg q, brB_pos q0])⟩
  by_cases q1 : k = 1
  · exact ⟨.int b, .inr ⟨b, rfl, by exact o175 lb, by exact o176 lb⟩, fun H => st _ H (by rw [brB_neg q, brB_neg q0, brB_pos q1])⟩
  by_cases q2 : k = 2
  · exact ⟨.int c, .inr ⟨c, rfl, by exact o177 lc, by exact o178 lc⟩, fun H => st _ H (by rw [brB_neg q, brB_neg q0, brB_neg q1, brB_pos q2])⟩
  · exact ⟨.int (1000000000 - (e : Int)), .inr ⟨_, rfl, by exact o179 le, by exact o180 le⟩, fun H => st _ H (by rw [brB_neg q, brB_neg q0, brB_neg q1, brB_neg q2])⟩
theorem l05_number (ns : List Int) (k : Nat) (hk : k ≤ 900) : ∃ n : Int, ∀ (H : Hp), Wp (callF T_05 (d + 2) 10 [.script ns, .int (k : Int)]) H (fun w H' => w = .int n ∧ H' = H) NoE := by
  have sm : small (k : Int) = true := by unfold small; simp; exact o181 hk
  by_cases q : (k : Int) + 3 < ns.length
  · refine ⟨ns.getD (k + 3) 0, fun H => ?_⟩
    rw [wp_call (g := f10_05) rfl rfl, f10_05]
    simp only [List.map_cons, List.map_nil, List.replicate_zero, List.cons_append, List.nil_append, ↓wps_cons, ↓wps_ite, ↓wp_cmp, ↓wp_bin, ↓wp_var, ↓getV_succ, ↓getV_zero, ↓wp_int, ↓wv_add, ↓wp_bf, ↓wp_cons, ↓wp_nil, ↓wv_len_script, ↓go_lt, ↓asBool_bool, ↓wps_ret, ↓wp_oSome, ↓wp_sub, ↓wps_nil, ↓wp_callE, ↓wv_mul]
    rw [brB_pos q, show (k : Int) + 3 = ((k + 3 : Nat) : Int) by exact o182, ws_script (by exact o183 q)]
    exact ⟨rfl, rfl⟩
  · refine ⟨7 * cellAt ns 1 + cellAt ns 2 * k * k + 13 * k, fun H => ?_⟩
    rw [wp_call (g := f10_05) rfl rfl, f10_05]
    simp only [List.map_cons, List.map_nil, List.replicate_zero, List.cons_append, List.nil_append, ↓wps_cons, ↓wps_ite, ↓wp_cmp, ↓wp_bin, ↓wp_var, ↓getV_succ, ↓getV_zero, ↓wp_int, ↓wv_add, ↓wp_bf, ↓wp_cons, ↓wp_nil, ↓wv_len_script, ↓go_lt, ↓asBool_bool, ↓wps_ret, ↓wp_oSome, ↓wp_sub, ↓wps_nil, ↓wp_callE, ↓wv_mul]
    rw [brB_neg q]
    show Wp (callF T_05 (d + 1) 5 [.script ns, .int ((1 : Nat) : Int)]) H _ _
    rw [l05_cell]
    refine ⟨rfl, ?_⟩
    show Wp (callF T_05 (d + 1) 5 [.script ns, .int ((2 : Nat) : Int)]) H _ _
    rw [l05_cell]
    refine ⟨by rw [sm, Bool.or_true], by rw [sm, Bool.or_true], rfl, rfl, rfl⟩
end
end Mine.Pure
-- part L5C
namespace Mine.Pure
open PySem
structure OkG (g : List (List Val)) (r c : Nat) : Prop where
  len : g.length = r
  row : ∀ (i : Nat) (w : List Val), g[i]? = some w → w.length = c ∧ ∀ v ∈ w, HV v
section
variable {T : Tab} {Φ : Funs} {Γ : Env'} {H : Hp} {Q : Val → Hp → Prop} {E : Nat → Hp → Prop} {d : Nat} {QS : Env' → Hp → Prop} {R : Val → Hp → Prop} {ES : Nat → Env' → Hp → Prop}
theorem app_get {α : Type} {l : List α} {x : α} {j : Nat} {w : α} (h : (l ++ [x])[j]? = some w) : l[j]? = some w ∨ (j = l.length ∧ w = x) := by
  by_cases c : j < l.length
  · rw [List.getElem?_append_left c] at h; exact .inl h
  · rw [List.getElem?_append_right (by exact o136 c)] at h
    have e : j - l.length = 0 := by
      have := (List.getElem?_eq_some_iff.mp h).1
      simp at this; omega
    rw [e] at h
    cases h
    exact .inr ⟨by exact o138 e c, rfl⟩
end
end Mine.Pure
-- part L5D
namespace Mine.Pure
open PySem
section
variable {T : Tab} {Φ : Funs} {Γ : Env'} {H : Hp} {Q : Val → Hp → Prop} {E : Nat → Hp → Prop} {d : Nat} {QS : Env' → Hp → Prop} {R : Val → Hp → Prop} {ES : Nat → Env' → Hp → Prop}
noncomputable def rowCells (i c : Nat) : List Val := (List.range c).map fun (j : Nat) => .tup [.int (i : Int), .int (j : Int)]
noncomputable def cells (r c : Nat) : List Val := (List.range r).flatMap fun i => rowCells i c
theorem cells_succ (r c : Nat) : cells (r + 1) c = cells r c ++ rowCells r c := by
  unfold cells; rw [List.range_succ]; simp
theorem rowCells_succ (i c : Nat) : rowCells i (c + 1) = rowCells i c ++ [.tup [.int (i : Int), .int (c : Int)]] := by
  unfold rowCells; rw [List.range_succ, List.map_append]; rfl
theorem cells_len (r c : Nat) : (cells r c).length = r * c := by
  induction r with
  | zero => simp [cells]
  | succ r ih => rw [cells_succ, List.length_append, ih, rowCells, List.length_map, List.length_range, Nat.succ_mul]
theorem set_new (K : Hp) (a b : HObj) : (K ++ [a]).set K.length b = K ++ [b] := by
  rw [List.set_append_right _ _ (Nat.le_refl _), Nat.sub_self]; rfl
theorem l05_cells {r c : Nat} (hr : r ≤ 30) (hc : c ≤ 30) : Wp (callF T_05 (d + 1) 2 [.int (r : Int), .int (c : Int)]) H (fun v H' => v = .loc H.length ∧ H' = H ++ [.list (cells r c)]) NoE := by
  have hlid : lid = 16777216 := rfl
  rw [wp_call (g := f2_05) rfl rfl, f2_05]
  refine wps_asg (fun v H' => v = .loc H.length ∧ H' = H ++ [.list []]) ?_ ?_
  · simp only [↓wp_list, ↓wp_nil, and_self]
  rintro _ H1 ⟨rfl, e⟩
  rw [e]; clear e H1
  refine wps_seq (fun Γ H' => ∃ a b, Γ = [some (.int r), some (.int c), some (.loc H.length), a, b] ∧ H' = H ++ [.list (cells r c)]) ?_ ?_
  · refine wps_eachR (n := r) (fun k Γ K => ∃ a b, Γ = [some (.int r), some (.int c), some (.loc H.length), a, b] ∧ K = H ++ [.list (cells k c)] ∧ k ≤ r) ?_ ?_ ?_ ?_ ?_
    · simp only [↓wp_var, List.map_cons, List.map_nil, List.replicate_succ, List.replicate_zero, List.cons_append, List.nil_append, List.set_cons_succ, List.set_cons_zero, and_true, ↓getV_zero]
    · exact o184 hr
    · exact ⟨_, _, rfl, rfl, Nat.zero_le _⟩
    · intro k Γ K hk zz
      refine ex2 zz fun a b zz => aNd3 zz fun zr2 zr3 _ => ?_; subst zr2; subst zr3
      refine wps_seq (fun Γ K => ∃ a b, Γ = [some (.int r), some (.int c), some (.loc H.length), a, b] ∧ K = H ++ [.list (cells (k + 1) c)] ∧ k + 1 ≤ r) ?_ (fun Γ K h => by rw [wps_nil]; exact h)
      refine wps_eachR (n := c) (fun j Γ K => ∃ b, Γ = [some (.int r), some (.int c), some (.loc H.length), some (.int k), b] ∧ K = H ++ [.list (cells k c ++ rowCells k j)] ∧ j ≤ c) ?_ ?_ ?_ ?_ ?_
      · simp only [↓wp_var, List.set_cons_succ, List.set_cons_zero, and_true, ↓getV_succ, ↓getV_zero]
      · exact o184 hc
      · exact ⟨_, rfl, by simp [rowCells], Nat.zero_le _⟩
      · intro j Γ K hj zz
        refine ex1 zz fun b zz => aNd3 zz fun zr1 zr2 _ => ?_; subst zr1; subst zr2
        refine wps_ex (fun K' => K' = H ++ [.list (cells k c ++ rowCells k (j + 1))]) ?_ ?_
        · refine wp_appendE rfl (get_new H _) ?_
          simp only [↓wp_tup, ↓wp_cons, ↓wp_var, List.set_cons_succ, List.set_cons_zero, ↓wp_nil, ↓getV_succ, ↓getV_zero]
          refine ⟨_, get_new H _, ?_, ?_⟩
          · rw [List.length_append, cells_len, rowCells, List.length_map, List.length_range]
            have := Nat.mul_le_mul (show k ≤ 30 by exact o185 hk hr) hc
            exact o186 hj hlid this hc
          · rw [set_new, List.append_assoc, ← rowCells_succ]
        · rintro K' rfl
          rw [wps_nil]
          exact ⟨_, rfl, rfl, by exact o187 hj⟩
      · intro Γ K zz
        refine ex1 zz fun b zz => aNd3 zz fun zr1 e _ => ?_; subst zr1
        rw [Int.toNat_natCast, ← cells_succ] at e
        exact ⟨_, _, rfl, e, by exact o187 hk⟩
    · intro Γ K zz
      refine ex2 zz fun a b zz => aNd3 zz fun e e' _ => ?_
      rw [Int.toNat_natCast] at e'
      exact ⟨a, b, e, e'⟩
  intro Γ K zz
  refine ex2 zz fun a b zz => aNd2 zz fun zr2 zr3 => ?_; subst zr2; subst zr3
  simp only [↓wps_cons, ↓wps_ret, ↓wp_oSome, ↓wp_var, ↓getV_succ, ↓getV_zero, and_self]
theorem wps_zipL {i j l m : Nat} {a b : ME} {body : MSs} {xs ys : List Val} (I : Nat → Env' → Hp → Prop) (ha : wpE T Φ a Γ H (fun v H' => v = .loc l ∧ H' = H) NoE) (hb : wpE T Φ b Γ H (fun v H' => v = .loc m ∧ H' = H) NoE)
    (hl : H[l]? = some (.list xs)) (hm : H[m]? = some (.list ys)) (e : xs.length = ys.length) (h0 : I 0 Γ (H ++ [.hid])) (hx : ∀ k Γ K, I k Γ K → Ext (H ++ [.hid]) K)
    (hs : ∀ k x y Γ K, xs[k]? = some x → ys[k]? = some y → I k Γ K → wpSs T Φ body ((Γ.set i (some x)).set j (some y)) K (I (k + 1)) R ES)
    (hd : ∀ Γ K, I xs.length Γ K → QS Γ K) : wpS T Φ (.eachZip i j a b body) Γ H QS R ES := by
  refine wps_eachZip (wpE_then ha ?_)
  rintro v H' ⟨rfl, e1⟩
  rw [e1]; clear e1 H'
  refine wpE_then hb ?_
  rintro v H' ⟨rfl, e1⟩
  rw [e1]; clear e1 H'
  rw [getO_of (show zipOf (.loc l) (.loc m) H = some ((xs, some l), (ys, some m)) by unfold zipOf; simp only [listOf_list hl, listOf_list hm])]
  refine ⟨e, ?_⟩
  have pl : ∀ (xs ys : List Val), xs.length = ys.length → (pairUp xs ys).length = xs.length ∧ ∀ (k : Nat) z, (pairUp xs ys)[k]? = some z → ∃ x y, xs[k]? = some x ∧ ys[k]? = some y ∧ z = .tup [x, y] := by
    intro xs
    induction xs with
    | nil => intro ys e; exact ⟨rfl, fun k z h => by cases h⟩
    | cons x xs ih =>
      intro ys e
      cases ys with
      | nil => cases e
      | cons y ys =>
        obtain ⟨h1, h2⟩ := ih ys (Nat.succ.inj e)
        refine ⟨congrArg (· + 1) h1, fun k z h => ?_⟩
        cases k with
        | zero => cases h; exact ⟨x, y, rfl, rfl, rfl⟩
        | succ k => exact h2 k z h
  obtain ⟨p1, p2⟩ := pl xs ys e
  refine wps_eachN I h0 ?_ ?_ ?_
  · intro Γ K h; rw [show (pairUp xs ys).length = xs.length from p1] at h; exact hd Γ K h
  · intro k Γ K _ h
    have eK := hx k Γ K h
    have e0 : Ext H (H ++ [HObj.hid]) := ⟨_, rfl⟩
    have h3 : isHid H.length K = true := by unfold isHid; rw [eK.get (get_new H _)]
    show (chk (some l) xs K && chk (some m) ys K && isHid H.length K) = true
    rw [chk_list (eK.get (e0.get hl)), chk_list (eK.get (e0.get hm)), h3]; rfl
  · intro k z Γ K hz h
    refine ex2 (p2 k z hz) fun x y zz => aNd3 zz fun hx' hy zr4 => ?_; subst zr4
    exact ⟨_, rfl, hs k x y Γ K hx' hy h⟩
end
end Mine.Pure
-- part L5E
namespace Mine.Pure
open PySem
section
variable {T : Tab} {Φ : Funs} {Γ : Env'} {H : Hp} {Q : Val → Hp → Prop} {E : Nat → Hp → Prop} {d : Nat} {QS : Env' → Hp → Prop} {R : Val → Hp → Prop} {ES : Nat → Env' → Hp → Prop}
theorem wa_attr3 {i c n : Nat} {fs : List (Nat × Val)} {v : Val} (h : H[i]? = some (.inst c fs)) (hf : fs.lookup n = some v) : Wp (attrV (.loc i) n) H Q E = Q v H := by
  have : attrV (.loc i) n H = .ok v H := by
    unfold attrV; rw [look_at]; simp only [h, hf]
  unfold Wp; rw [this]
theorem wa_setattr3 {i c n : Nat} {fs : List (Nat × Val)} {v : Val} {Q : Unit → Hp → Prop} (h : H[i]? = some (.inst c fs)) : Wp (setattrV (.loc i) n v) H Q E = Q () (H.set i (.inst c (fput fs n v))) := by
  have : setattrV (.loc i) n v H = .ok () (H.set i (.inst c (fput fs n v))) := by
    unfold setattrV; simp only [h]
  unfold Wp; rw [this]
theorem wa_setitem3 {l : Nat} {xs : List Val} {k : Int} {v : Val} {Q : Unit → Hp → Prop} (h : H[l]? = some (.list xs)) (h0 : 0 ≤ k) (h1 : k < xs.length) : Wp (setitemV (.loc l) (.int k) v) H Q E = Q () (H.set l (.list (xs.set k.toNat v))) := by
  have : setitemV (.loc l) (.int k) v H = .ok () (H.set l (.list (xs.set k.toNat v))) := by
    unfold setitemV; simp only [h]; exact if_pos ⟨h0, h1⟩
  unfold Wp; rw [this]
theorem ws_eq3 {l : Nat} {xs : List Val} (h : H[l]? = some (.list xs)) {k : Nat} {v : Val} (hk : xs[k]? = some v) : Wp (subV (.loc l) (.int (k : Int))) H Q E = Q v H := by
  have lt := (List.getElem?_eq_some_iff.mp hk).1
  have : subV (.loc l) (.int (k : Int)) H = .ok v H := by
    unfold subV; rw [look_at]
    simp only [h, place_nat k xs.length lt, Option.bind_some, hk]
  unfold Wp; rw [this]
theorem wu_meth3 {i c m k : Nat} {fs : List (Nat × Val)} {Q : Nat → Hp → Prop} (h : H[i]? = some (.inst c fs)) (hk : T.meth c m = some k) : Wp (umethOf T (.loc i) m) H Q E = Q k H := by
  have : umethOf T (.loc i) m H = .ok k H := by
    unfold umethOf; rw [look_at]; simp only [h, hk]
  unfold Wp; rw [this]
theorem wps_listL {i l : Nat} {it : ME} {body : MSs} {xs : List Val} (I : Nat → Env' → Hp → Prop) (hit : wpE T Φ it Γ H (fun v H' => v = .loc l ∧ H' = H) NoE) (hl : H[l]? = some (.list xs)) (h0 : I 0 Γ H) (hx : ∀ k Γ K, I k Γ K → K[l]? = some (.list xs))
    (hs : ∀ k x Γ K, xs[k]? = some x → I k Γ K → wpSs T Φ body (Γ.set i (some x)) K (I (k + 1)) R ES) (hd : ∀ Γ K, I xs.length Γ K → QS Γ K) : wpS T Φ (.each i it body) Γ H QS R ES := by
  refine wps_each (wpE_then hit ?_)
  rintro v H' ⟨hr0, e⟩; rw [hr0]
  rw [e, getO_of (iter_list hl)]
  exact wps_eachN I h0 hd (fun k Γ K _ h => chk_list (hx k Γ K h)) fun k x Γ K hx h => ⟨_, rfl, hs k x Γ K hx h⟩
theorem row_of {l b s r c : Nat} {g : List (List Val)} {k : Nat} {x : Val} (og : OkG g r c) (G : GAt H l b s g) (hx : ((List.range g.length).map fun i => Val.loc (b + s * i))[k]? = some x) : ∃ w, x = .loc (b + s * k) ∧ g[k]? = some w ∧ H[b + s * k]? = some (.list w) ∧ w.length = c ∧ ∀ v ∈ w, HV v := by
  have lt : k < g.length := by have := (List.getElem?_eq_some_iff.mp hx).1; simpa using this
  rw [G.item lt] at hx
  cases hx
  have hg : g[k]? = some g[k] := List.getElem?_eq_getElem lt
  exact ⟨g[k], rfl, hg, G.row k _ hg, og.row k _ hg⟩
theorem rw_len {l n : Nat} {w : List Val} {k : Nat} {Γ : Env'} (g : Γ[k]? = some (some (.loc l))) (h : H[l]? = some (.list w)) (e : w.length = n) (h1 : 1 ≤ n) (h2 : n ≤ 30) : wpE T_05 (callF T_05 (d + 1)) (.or (.not (.isinst (.var k) .list)) (.not (.call 0 (.cons (.bf .len (.cons (.var k) .nil)) (.cons (.int 1) (.cons (.glob 0) .nil)))))) Γ H (fun v K => v = .bool false ∧ H = K) NoE := by
  rw [wp_or, wp_not, wp_isinst, wp_var, getV_of g, wi_list _ _ h]
  show wpE _ _ _ _ _ _ _
  rw [wp_not, wp_callE, wp_cons, wp_bf, wp_cons, wp_var, getV_of g, wp_nil, wv_len_loc h, wp_cons, wp_int, wp_cons, wp_glob, globs_0, getO_some, wp_nil, e, l05_whole (by exact o188 h1 h2) (by exact o189 h1 h2)]
  exact ⟨rfl, rfl⟩
theorem rw_each {l b s r c : Nat} {g : List (List Val)} {x1 : Option Val} (hS : OkS r c) (og : OkG g r c) (G : GAt H l b s g) (q : ∀ a, QS [some (.loc l), a] H) : wpS T_05 (callF T_05 (d + 1)) (.each 1 (.var 0) (.cons (.ite (.or (.not (.isinst (.var 1) .list)) (.not (.call 0 (.cons (.bf .len (.cons (.var 1) .nil)) (.cons (.int 1) (.cons (.glob 0) .nil)))))) (.cons (.raise 1 "a row is a list of heights") .nil) .nil) .nil)) [some (.loc l), x1] H QS R NoX := by
  unfold OkS at hS
  obtain ⟨I, hI⟩ := hide3 (fun (k : Nat) (Γ : Env') (K : Hp) => H = K ∧ ∃ a, Γ = [some (.loc l), a])
  refine wps_listL I ⟨rfl, rfl⟩ G.top ((hI _ _ _).mpr ⟨rfl, _, rfl⟩) (fun k Γ K h => by rw [← ((hI _ _ _).mp h).1]; exact G.top) ?_ ?_
  · intro k x Γ K hx h
    refine aNd2 ((hI _ _ _).mp h) fun zr0 zz => ex1 zz fun a zr2 => ?_; subst zr0; subst zr2
    refine ex1 (row_of og G hx) fun w zz => aNd5 zz fun hr0 hg hr lw _ => ?_; refine Eq.symm hr0 ▸ ?_
    exact wps_no _ (rw_len rfl hr lw (by exact o190 hS lw) (by exact o191 hS lw)) fun K h => (hI _ _ _).mpr ⟨h, _, rfl⟩
  · intro Γ K h
    refine aNd2 ((hI _ _ _).mp h) fun zr0 zz => ex1 zz fun a zr2 => ?_; subst zr0; subst zr2
    exact q a
theorem rw_all {l b s r c : Nat} {g : List (List Val)} {x1 : Option Val} (hS : OkS r c) (og : OkG g r c) (G : GAt H l b s g) (q : ∀ a, QS [some (.loc l), a] H) : wpS T_05 (callF T_05 (d + 1)) (.each 1 (.var 0) (.cons (.ite (.cmp .ne (.bf .len (.cons (.var 1) .nil)) (.bf .len (.cons (.sub (.var 0) (.int 0)) .nil))) (.cons (.raise 1 "all rows are as long") .nil) .nil) .nil)) [some (.loc l), x1] H QS R NoX := by
  unfold OkS at hS
  obtain ⟨x0, hx0⟩ : ∃ x, ((List.range g.length).map fun i => Val.loc (b + s * i))[0]? = some x := ⟨_, List.getElem?_eq_getElem (by rw [List.length_map, List.length_range, og.len]; exact o192 hS)⟩
  refine ex1 (row_of og G hx0) fun w0 zz => aNd5 zz fun zr1 _ hr0 lw0 _ => ?_; subst zr1
  obtain ⟨I, hI⟩ := hide3 (fun (k : Nat) (Γ : Env') (K : Hp) => H = K ∧ ∃ a, Γ = [some (.loc l), a])
  refine wps_listL I ⟨rfl, rfl⟩ G.top ((hI _ _ _).mpr ⟨rfl, _, rfl⟩) (fun k Γ K h => by rw [← ((hI _ _ _).mp h).1]; exact G.top) ?_ ?_
  · clear q
    intro k x Γ K hx h
    refine aNd2 ((hI _ _ _).mp h) fun zr0 zz => ex1 zz fun a zr2 => ?_; subst zr0; subst zr2
    refine ex1 (row_of og G hx) fun w zz => aNd5 zz fun hr1 hg hr lw _ => ?_; refine Eq.symm hr1 ▸ ?_
    refine wps_no (fun K => H = K) ?_ fun K h => (hI _ _ _).mpr ⟨h, _, rfl⟩
    show Wp (bfV .len [.loc (b + s * k)]) H _ _
    rw [wv_len_loc hr]
    show Wp (subV (.loc l) (.int ((0 : Nat) : Int))) H _ _
    rw [ws_eq3 G.top hx0]
    show Wp (bfV .len [.loc (b + s * 0)]) H _ _
    rw [wv_len_loc hr0, lw, lw0, go_ne, decide_eq_true rfl]
    exact ⟨rfl, rfl⟩
  · intro Γ K h
    refine aNd2 ((hI _ _ _).mp h) fun zr0 zz => ex1 zz fun a zr2 => ?_; subst zr0; subst zr2
    exact q a
theorem l05_rows {l b s r c : Nat} {g : List (List Val)} (hS : OkS r c) (og : OkG g r c) (G : GAt H l b s g) : Wp (callF T_05 (d + 2) 4 [.loc l]) H (fun v H' => v = .none ∧ H' = H) NoE := by
  have hS' := hS
  unfold OkS at hS'
  rw [wp_call (g := f4_05) rfl rfl]
  refine wps_no _ (rw_len rfl G.top (show _ = r by rw [List.length_map, List.length_range, og.len]) hS'.1 hS'.2.1) ?_
  rintro _ rfl
  refine rw_each hS og G fun a => ?_
  exact rw_all hS og G fun a => ⟨rfl, rfl⟩
structure LandAt (H : Hp) (o r c lg b s ls : Nat) (g : List (List Val)) (es : List (Key × Val)) : Prop where
  inst : ∃ fs, H[o]? = some (.inst 7 fs) ∧ fs.lookup 0 = some (.int (r : Int)) ∧ fs.lookup 1 = some (.int (c : Int)) ∧ fs.lookup 2 = some (.loc lg) ∧ fs.lookup 3 = some (.loc ls)
  grid : GAt H lg b s g
  sinks : H[ls]? = some (.dict es)
theorem LandAt.ext {H' : Hp} {o r c lg b s ls : Nat} {g : List (List Val)} {es : List (Key × Val)} (x : LandAt H o r c lg b s ls g es) (e : Ext H H') : LandAt H' o r c lg b s ls g es := by
  refine ex1 x.inst fun fs zz => aNd2 zz fun h1 h2 => ?_
  exact ⟨⟨fs, e.get h1, h2⟩, x.grid.ext e, e.get x.sinks⟩
structure But (l : Nat) (H H' : Hp) : Prop where
  keep : ∀ m ob, m ≠ l → H[m]? = some ob → H'[m]? = some ob
  len : H.length ≤ H'.length
theorem ini_loop {o l b s r c : Nat} {g : List (List Val)} (og : OkG g r c) (G : GAt H l b s g) (q : ∀ a b, QS [some (.loc o), some (.loc l), a, b] H) :
    wpS T_05 (callF T_05 (d + 2)) (.each 2 (.var 1) (.cons (.each 3 (.var 2) (.cons (.ite (.not (.call 3 (.cons (.var 3) .nil))) (.cons (.raise 2 "a height or None is wanted") .nil) .nil) .nil)) .nil)) [some (.loc o), some (.loc l), none, none] H QS R NoX := by
  obtain ⟨I, hI⟩ := hide3 (fun (k : Nat) (Γ : Env') (K : Hp) => H = K ∧ ∃ a b, Γ = [some (.loc o), some (.loc l), a, b])
  refine wps_listL I ⟨rfl, rfl⟩ G.top ((hI _ _ _).mpr ⟨rfl, _, _, rfl⟩) (fun k Γ K h => by rw [← ((hI _ _ _).mp h).1]; exact G.top) ?_ ?_
  · clear q
    intro k x Γ K hx h
    refine aNd2 ((hI _ _ _).mp h) fun zr0 zz => ex2 zz fun a b' zr3 => ?_; subst zr0; subst zr3
    refine ex1 (row_of og G hx) fun w zz => aNd5 zz fun zr1 hg hr lw hw => ?_; subst zr1
    refine wps_listL I ⟨rfl, rfl⟩ hr ((hI _ _ _).mpr ⟨rfl, _, _, rfl⟩) (fun k Γ K h => by rw [← ((hI _ _ _).mp h).1]; exact hr) ?_ (fun Γ K h => (hI _ _ _).mpr ((hI _ _ _).mp h))
    intro j v Γ K2 hv h
    refine aNd2 ((hI _ _ _).mp h) fun zr0 zz => ex2 zz fun a b' zr3 => ?_; subst zr0; subst zr3
    refine wps_no (fun K => H = K) ?_ (fun K h => (hI _ _ _).mpr ⟨h, _, _, rfl⟩)
    rw [wp_not, wp_callE, wp_cons, wp_var, getV_of (v := v) rfl, wp_nil, l05_height (hw v (List.mem_of_getElem? hv))]
    exact ⟨rfl, rfl⟩
  · intro Γ K h
    refine aNd2 ((hI _ _ _).mp h) fun zr0 zz => ex2 zz fun a b zr3 => ?_; subst zr0; subst zr3
    exact q a b
theorem l05_init {o l b s r c : Nat} {g : List (List Val)} (hS : OkS r c) (og : OkG g r c) (G : GAt H l b s g) (ho : H[o]? = some (.inst 7 [])) :
    Wp (callF T_05 (d + 3) 21 [.loc o, .loc l]) H (fun v H' => v = .none ∧ But o H H' ∧ ∃ lg b' ls, LandAt H' o r c lg b' 1 ls g [] ∧ H.length ≤ b' ∧ lg = b' + r ∧ H.length ≤ ls) NoE := by
  have hS' := hS
  unfold OkS at hS'
  have len : ((List.range g.length).map fun i => Val.loc (b + s * i)).length = r := by rw [List.length_map, List.length_range, og.len]
  have ne : ∀ k w, g[k]? = some w → o ≠ b + s * k := fun k w hg q => by have := G.row k w hg; rw [← q, ho] at this; exact nomatch this
  have nl : o ≠ l := fun q => by have := G.top; rw [← q, ho] at this; cases this
  have G1 : ∀ ob, GAt (H.set o ob) l b s g := fun ob => G.other ob nl fun i hi => ne i g[i] (List.getElem?_eq_getElem hi)
  rw [wp_call (g := f21_05) rfl rfl]
  refine wps_ex (fun K => H = K) ?_ ?_
  · exact (l05_rows hS og G).then fun v H' h => h.2.symm
  rintro _ hr0; refine hr0 ▸ ?_
  refine ini_loop og G fun a b' => ?_
  obtain ⟨x0, hx0⟩ : ∃ x, ((List.range g.length).map fun i => Val.loc (b + s * i))[0]? = some x := ⟨_, List.getElem?_eq_getElem (by skip; exact o193 hS' len)⟩
  refine ex1 (row_of og G hx0) fun w0 zz => aNd5 zz fun zr1 hg0 hr0 lw0 _ => ?_; subst zr1
  show Wp (bfV .len [.loc l]) H _ _
  rw [wv_len_loc G.top, len]
  show Wp (setattrV (.loc o) 0 (.int (r : Int))) H _ _
  rw [wa_setattr3 ho]
  show Wp (subV (.loc l) (.int ((0 : Nat) : Int))) _ _ _
  rw [ws_eq3 (G1 _).top hx0]
  show Wp (bfV .len [.loc (b + s * 0)]) _ _ _
  rw [wv_len_loc ((G1 _).row 0 w0 hg0), lw0]
  show Wp (setattrV (.loc o) 1 (.int (c : Int))) _ _ _
  rw [wa_setattr3 (get_set _ ho), List.set_set]
  refine wp_copy (l := l) (b := b) (s := s) (g := g) rfl (G1 _) (by rw [og.len]; show r < 16777216; exact o194 hS' len) ⟨rfl, rfl⟩ ?_
  intro K2 e2 G2 hK2
  rw [List.length_set] at G2 hK2 ⊢
  have o2 := e2.get (get_set (HObj.inst 7 [(0, Val.int (r : Int)), (1, Val.int (c : Int))]) ho)
  have lo : o < H.length := lt_of_get ho
  have e3 : ∀ (X : Hp) (ob : HObj), Ext X (X ++ [ob]) := fun X ob => ⟨_, rfl⟩
  show Wp (setattrV (.loc o) 2 (.loc (H.length + g.length))) K2 _ _
  rw [wa_setattr3 o2]
  show Wp (setattrV (.loc o) 3 _) (_ ++ [.dict []]) _ _
  rw [wa_setattr3 ((e3 _ _).get (get_set _ o2))]
  have G3 : ∀ (X : Hp) (ob : HObj), GAt X (H.length + g.length) H.length 1 g → GAt (X.set o ob) (H.length + g.length) H.length 1 g := fun X ob x => x.other ob (by exact o195 lo) fun i _ => by exact o196 lo
  refine ⟨rfl, ⟨fun m ob hm h => ?_, ?_⟩, H.length + g.length, H.length, K2.length, ⟨⟨_, get_set _ ((e3 _ _).get (get_set _ o2)), rfl, rfl, rfl, ?_⟩, G3 _ _ ((G3 _ _ G2).ext (e3 _ _)), ?_⟩, Nat.le_refl _, by rw [og.len], by exact o197 hK2⟩
  · exact get_other _ (Ne.symm hm) ((e3 _ _).get (get_other _ (Ne.symm hm) (e2.get (get_other _ (Ne.symm hm) h))))
  · rw [List.length_set, List.length_append, List.length_set]; exact o198 hK2
  · rw [List.length_set]; rfl
  · refine get_other _ (by exact o199 lo hK2) ?_
    have := get_new (K2.set o (HObj.inst 7 (fput [(0, Val.int (r : Int)), (1, Val.int (c : Int))] 2 (Val.loc (H.length + g.length))))) (.dict [])
    rw [List.length_set] at this
    exact this
end
end Mine.Pure
-- part L5F
namespace Mine.Pure
open PySem
section
variable {T : Tab} {Φ : Funs} {Γ : Env'} {H : Hp} {Q : Val → Hp → Prop} {E : Nat → Hp → Prop} {d : Nat} {QS : Env' → Hp → Prop} {R : Val → Hp → Prop} {ES : Nat → Env' → Hp → Prop}
theorem ext_of {H H' : Hp} (h : ∀ (m : Nat) (ob : HObj), H[m]? = some ob → H'[m]? = some ob) : Ext H H' := by
  refine ⟨H'.drop H.length, List.ext_getElem? fun i => ?_⟩
  by_cases c : i < H.length
  · rw [List.getElem?_append_left c, List.getElem?_eq_getElem c]
    exact h i _ (List.getElem?_eq_getElem c)
  · rw [List.getElem?_append_right (by exact o136 c), List.getElem?_drop, show H.length + (i - H.length) = i by exact o200 c]
theorem wn_land {l b s r c : Nat} {g : List (List Val)} (hS : OkS r c) (og : OkG g r c) (G : GAt H l b s g) : Wp (newV T_05 (callF T_05 (d + 3)) 7 [.loc l]) H (fun v H' => v = .loc H.length ∧ Ext H H' ∧ ∃ lg b' ls, LandAt H' H.length r c lg b' 1 ls g [] ∧ H.length < b' ∧ lg = b' + r ∧ H.length < ls) NoE := by
  show Wp ((M.alloc (.inst 7 [])).bnd fun o => (callF T_05 (d + 3) 21 [o, .loc l]).bnd fun r => match r with
    | .none => .ret o
    | _ => .bad) H _ _
  rw [wp_bnd, wp_alloc, wp_bnd]
  have e0 : Ext H (H ++ [HObj.inst 7 []]) := ⟨_, rfl⟩
  refine (l05_init hS og (G.ext e0) (get_new H _)).then ?_
  intro v H' zz
  refine aNd3 zz fun zr0 bt zz => ex3 zz fun lg b' ls zz => aNd4 zz fun L h1 h2 h3 => ?_; subst zr0
  rw [List.length_append, List.length_singleton] at h1 h3
  refine ⟨rfl, ext_of fun m ob hm => bt.keep m ob (Nat.ne_of_lt (lt_of_get hm)) (e0.get hm), lg, b', ls, L, h1, h2, h3⟩
theorem l05_heights {o r c lg b s ls : Nat} {g : List (List Val)} {es : List (Key × Val)} (og : OkG g r c) (hr : r ≤ 30) (L : LandAt H o r c lg b s ls g es) : Wp (callF T_05 (d + 1) 29 [.loc o]) H (fun v H' => v = .loc (H.length + r) ∧ Ext H H' ∧ GAt H' (H.length + r) H.length 1 g) NoE := by
  have hlid : lid = 16777216 := rfl
  refine ex1 L.inst fun fs zz => aNd5 zz fun h0 h1 h2 h3 h4 => ?_
  rw [wp_call (g := f29_05) rfl rfl]
  refine wp_copy (l := lg) (b := b) (s := s) (g := g) rfl L.grid (by rw [og.len]; exact o201 hlid hr) ?_ ?_
  · simp only [↓wp_attr, ↓wp_var, List.map_cons, List.map_nil, List.cons_append, List.nil_append, ↓getV_zero]
    rw [wa_attr3 h0 h3]
    exact ⟨rfl, rfl⟩
  · intro K e G _
    rw [og.len] at G ⊢
    exact ⟨rfl, e, G⟩
noncomputable def inD (es : List (Key × Val)) (x : Val) : Bool := match keyOf x with
  | some k => (dget es k).isSome
  | none => false
theorem cell_mem {r c : Nat} {x : Val} (h : x ∈ cells r c) : ∃ i j : Nat, x = .tup [.int (i : Int), .int (j : Int)] ∧ i < r ∧ j < c := by
  unfold cells rowCells at h
  refine ex1 (List.mem_flatMap.mp h) fun i zz => aNd2 zz fun hi h => ?_
  refine ex1 (List.mem_map.mp h) fun j zz => aNd2 zz fun hj h => ?_
  exact ⟨i, j, h.symm, List.mem_range.mp hi, List.mem_range.mp hj⟩
theorem in_dict {ls : Nat} {es : List (Key × Val)} {i j : Int} (h : H[ls]? = some (.dict es)) : cmpV .isin (.tup [.int i, .int j]) (.loc ls) H = some (inD es (.tup [.int i, .int j])) := by
  have e : cmpV .isin (.tup [.int i, .int j]) (.loc ls) H = inV (.tup [.int i, .int j]) (.loc ls) H := rfl
  rw [e]
  unfold inV
  simp only [h]
  rfl
theorem take_snoc {α : Type} {l : List α} {k : Nat} {x : α} (h : l[k]? = some x) : l.take (k + 1) = l.take k ++ [x] := by
  rw [List.take_add_one, h]; rfl
theorem l05_drains {o r c lg b s ls : Nat} {g : List (List Val)} {es : List (Key × Val)} (hr : r ≤ 30) (hc : c ≤ 30) (L : LandAt H o r c lg b s ls g es) : Wp (callF T_05 (d + 2) 28 [.loc o]) H (fun v H' => ∃ m, v = .loc m ∧ H.length ≤ m ∧ Ext H H' ∧ H'[m]? = some (.list ((cells r c).filter (inD es)))) NoE := by
  have hlid : lid = 16777216 := rfl
  refine ex1 L.inst fun fs zz => aNd5 zz fun h0 h1 h2 h3 h4 => ?_
  rw [wp_call (g := f28_05) rfl rfl, f28_05]
  simp only [List.map_cons, List.map_nil, List.replicate_zero, List.cons_append, List.nil_append, ↓wps_cons, ↓wps_ret, ↓wp_oSome]
  refine wp_comp ?_
  dsimp only [↓wp_none, ↓wp_bool, ↓wp_int, ↓wp_str, ↓wp_glob, ↓wp_var, ↓wp_bin, ↓wp_not, ↓wp_and, ↓wp_or, ↓wp_cmp, ↓wp_cmp2, ↓wp_sub, ↓wp_oNone, ↓wp_oSome, ↓wp_tup, ↓wp_list, ↓wp_dict, ↓wp_callE, ↓wp_bf, ↓wp_bm, ↓wp_isinst, ↓wp_nil, ↓wp_cons, ↓wp_attr, ↓wp_umeth, ↓wp_new, ↓wp_slice, ↓wps_nil, ↓wps_cons, ↓wps_expr, ↓wps_assign, ↓wps_ret, ↓wps_ite, ↓wps_raise, ↓wps_setattr, ↓wps_setitem, ↓wv_add, ↓wv_sub, ↓wv_mul, ↓wv_fdiv, ↓wv_mod, ↓wv_range, ↓wv_len_script, ↓wv_len_tup, ↓go_eq, ↓go_ne, ↓go_neB, ↓go_lt, ↓go_gt, ↓go_le, ↓go_isNone_none, ↓go_isNone_int, ↓go_isNotNone_none, ↓go_isNotNone_int, ↓wi_int_int, ↓wi_int_bool, ↓wi_int_tup, ↓wi_int_list, ↓wi_bool_int, ↓wi_bool_bool, ↓wi_bool_tup, ↓wi_none_tup, ↓wi_none_int, ↓wi_str_tup, ↓wi_str_int, ↓wi_tup_tup, ↓wi_tup_int, ↓ws_tup0, ↓ws_tup1, ↓ws_tup2, ↓getV_zero, ↓getV_s, ↓getV_n, ↓getV_succ, ↓asBool_bool, ↓getO_some, ↓brB_true, ↓brB_false, ↓brB_not, ↓wp_ret, List.map_cons, List.map_nil, List.cons_append, List.nil_append, List.set_cons_zero, List.set_cons_succ, List.replicate_succ, List.replicate_zero, Bool.not_true, Bool.not_false, and_true, true_and, and_self]
  rw [wa_attr3 h0 h1, wa_attr3 h0 h2]
  refine (l05_cells hr hc).then ?_
  rintro v K ⟨rfl, e⟩
  rw [e]; clear e K
  have e0 : Ext H (H ++ [HObj.list (cells r c)]) := ⟨_, rfl⟩
  rw [getO_of (iter_list (get_new H _))]
  refine wp_compN (fun k out K => K = H ++ [.list (cells r c)] ∧ out = ((cells r c).take k).filter (inD es)) ⟨rfl, rfl⟩ ?_ ?_ ?_
  · rintro k out K ⟨rfl, _⟩; exact chk_list (get_new H _)
  · rintro k x out K hx ⟨rfl, rfl⟩
    refine ex2 (cell_mem (List.mem_of_getElem? hx)) fun i j zz => aNd3 zz fun zr2 _ _ => ?_; subst zr2
    refine wp_step ?_
    dsimp only [↓wp_none, ↓wp_bool, ↓wp_int, ↓wp_str, ↓wp_glob, ↓wp_var, ↓wp_bin, ↓wp_not, ↓wp_and, ↓wp_or, ↓wp_cmp, ↓wp_cmp2, ↓wp_sub, ↓wp_oNone, ↓wp_oSome, ↓wp_tup, ↓wp_list, ↓wp_dict, ↓wp_callE, ↓wp_bf, ↓wp_bm, ↓wp_isinst, ↓wp_nil, ↓wp_cons, ↓wp_attr, ↓wp_umeth, ↓wp_new, ↓wp_slice, ↓wps_nil, ↓wps_cons, ↓wps_expr, ↓wps_assign, ↓wps_ret, ↓wps_ite, ↓wps_raise, ↓wps_setattr, ↓wps_setitem, ↓wv_add, ↓wv_sub, ↓wv_mul, ↓wv_fdiv, ↓wv_mod, ↓wv_range, ↓wv_len_script, ↓wv_len_tup, ↓go_eq, ↓go_ne, ↓go_neB, ↓go_lt, ↓go_gt, ↓go_le, ↓go_isNone_none, ↓go_isNone_int, ↓go_isNotNone_none, ↓go_isNotNone_int, ↓wi_int_int, ↓wi_int_bool, ↓wi_int_tup, ↓wi_int_list, ↓wi_bool_int, ↓wi_bool_bool, ↓wi_bool_tup, ↓wi_none_tup, ↓wi_none_int, ↓wi_str_tup, ↓wi_str_int, ↓wi_tup_tup, ↓wi_tup_int, ↓ws_tup0, ↓ws_tup1, ↓ws_tup2, ↓getV_zero, ↓getV_s, ↓getV_n, ↓getV_succ, ↓asBool_bool, ↓getO_some, ↓brB_true, ↓brB_false, ↓brB_not, ↓wp_ret, List.map_cons, List.map_nil, List.cons_append, List.nil_append, List.set_cons_zero, List.set_cons_succ, List.replicate_succ, List.replicate_zero, Bool.not_true, Bool.not_false, and_true, true_and, and_self]
    rw [wa_attr3 (e0.get h0) h4, getO_of (in_dict (e0.get L.sinks))]
    simp only [true_and]
    rw [take_snoc hx, List.filter_append]
    refine brB_cases ?_ ?_
    · intro q
      rw [List.filter_cons_of_pos q]; rfl
    · intro q
      rw [List.filter_cons_of_neg (by rw [q]; exact Bool.false_ne_true)]; rfl
  · rintro zs K ⟨rfl, rfl⟩
    have tl : (cells r c).take (cells r c).length = cells r c := List.take_length
    refine ⟨?_, _, rfl, by rw [List.length_append]; exact o202, e0.new _, ?_⟩
    · refine Nat.lt_of_le_of_lt (List.length_filter_le _ _) ?_
      rw [tl, cells_len]
      have := Nat.mul_le_mul hr hc
      exact o203 hlid this
    · rw [get_new, tl]
theorem l05_look {o r c lg b s ls i j : Nat} {g : List (List Val)} {es : List (Key × Val)} (hi : i < r) (hj : j < c) (L : LandAt H o r c lg b s ls g es) : Wp (callF T_05 (d + 3) 22 [.loc o, .tup [.int (i : Int), .int (j : Int)]]) H (fun v H' => v = .none ∧ H' = H) NoE := by
  refine ex1 L.inst fun fs zz => aNd5 zz fun h0 h1 h2 h3 h4 => ?_
  rw [wp_call (g := f22_05) rfl rfl, f22_05]
  refine wps_no (fun H' => H' = H) ?_ ?_
  · simp only [↓wp_not, ↓wp_callE, ↓wp_cons, ↓wp_attr, ↓wp_var, List.map_cons, List.map_nil, List.replicate_zero, List.cons_append, List.nil_append, ↓wp_nil, ↓getV_succ, ↓getV_zero]
    rw [wa_attr3 h0 h1, wa_attr3 h0 h2, l05_lies (by exact o156) (by exact o157 hi) (by exact o156) (by exact o157 hj)]
    simp only [↓asBool_bool, Bool.not_true, and_self]
  · rintro H' rfl
    rw [wps_nil]; exact ⟨rfl, rfl⟩
theorem ext_look {o i j : Nat} {fs : List (Nat × Val)} {P : Hp → Prop} (h0 : H[o]? = some (.inst 7 fs)) (h : Wp (callF T_05 d 22 [.loc o, .tup [.int (i : Int), .int (j : Int)]]) H (fun v H' => v = .none ∧ H' = H) NoE) (p : P H) {Γ : Env'} (g0 : Γ[0]? = some (some (.loc o))) (g1 : Γ[1]? = some (some (.tup [.int (i : Int), .int (j : Int)]))) :
    wpE T_05 (callF T_05 d) (.umeth (.var 0) 1 (.cons (.var 1) .nil)) Γ H (fun _ H' => P H') NoE := by
  rw [wp_umeth, wp_var, getV_get, g0]
  show Wp (umethOf T_05 (.loc o) 1) H _ _
  rw [wu_meth3 h0 (show T_05.meth 7 1 = some 22 from rfl), wp_cons, wp_var, getV_get, g1]
  exact h.then fun v H' e => e.2 ▸ p
theorem l05_opened {o r c lg b s ls i j : Nat} {g : List (List Val)} {es : List (Key × Val)} {w : List Val} {n : Int} (hi : i < r) (hj : j < c) (L : LandAt H o r c lg b s ls g es) (hw : g[i]? = some w) (hx : w[j]? = some (.int n)) (he : es.length < lid) :
    Wp (callF T_05 (d + 4) 26 [.loc o, .tup [.int (i : Int), .int (j : Int)]]) H (fun v H' => v = .none ∧ H' = H.set ls (.dict (dput es ((i : Int), (j : Int)) (.bool true)))) NoE := by
  refine ex1 L.inst fun fs zz => aNd5 zz fun h0 h1 h2 h3 h4 => ?_
  rw [wp_call (g := f26_05) rfl rfl]
  refine wps_ex (fun H' => H' = H) (ext_look (P := fun K => K = H) h0 (l05_look hi hj L) rfl rfl rfl) ?_
  rintro H' rfl
  refine wps_no (fun K => K = H') ?_ ?_
  · simp only [↓wp_cmp, ↓wp_sub, ↓wp_attr, ↓wp_var, List.map_cons, List.map_nil, List.cons_append, List.nil_append, ↓wp_int, ↓wp_none, ↓getV_succ, ↓getV_zero, ↓ws_tup1, ↓ws_tup0]
    rw [wa_attr3 h0 h3, ws_eq3 L.grid.top (L.grid.item (List.getElem?_eq_some_iff.mp hw).1), ws_eq3 (L.grid.row i w hw) hx]
    simp only [↓go_isNone_int, and_self]
  rintro K rfl
  simp only [↓wps_cons, ↓wps_setitem, ↓wp_bool, ↓wp_attr, ↓wp_var, List.map_cons, List.map_nil, List.cons_append, List.nil_append, ↓wps_nil, true_and, ↓getV_succ, ↓getV_zero]
  rw [wa_attr3 h0 h4]
  refine Wp.of_eq (a := ()) (H' := K.set ls (.dict (dput es ((i : Int), (j : Int)) (.bool true)))) ?_ rfl
  unfold setitemV
  simp only [L.sinks]
  exact if_pos he
end
end Mine.Pure
-- part L5H
namespace Mine.Pure
open PySem
noncomputable def sizes : List (Nat × Nat) := [(1, 30), (30, 1), (5, 5), (2, 12), (2, 30), (30, 2), (6, 7), (7, 9)]
section
variable {T : Tab} {Φ : Funs} {Γ : Env'} {H : Hp} {Q : Val → Hp → Prop} {E : Nat → Hp → Prop} {d : Nat} {QS : Env' → Hp → Prop} {R : Val → Hp → Prop} {ES : Nat → Env' → Hp → Prop}
theorem l05_size (c : Int) : ∃ r k : Nat, (OkS r k ∧ r * k ≤ 63) ∧ ∀ (H : Hp), Wp (callF T_05 (d + 1) 8 [.int c]) H (fun v H' => v = .tup [.int r, .int k] ∧ Ext H H') NoE := by
  by_cases q : Int.fmod (Int.fdiv c 20) 8 = 1
  · refine ex1 (fmod_nat (Int.fdiv c 160) 8 (by decide)) fun j zz => aNd2 zz fun hj lj => ?_
    have lj' : j < sizes.length := lj
    refine ⟨(sizes[j]).1, (sizes[j]).2, ?_, fun H => ?_⟩
    · have : ∀ p ∈ sizes, OkS p.1 p.2 ∧ p.1 * p.2 ≤ 63 := by unfold OkS sizes; decide
      exact this _ (List.getElem_mem lj')
    · rw [wp_call (g := f8_05) rfl rfl, f8_05]
      simp only [List.map_cons, List.map_nil, List.replicate_zero, List.cons_append, List.nil_append, ↓wps_cons, ↓wps_ite, ↓wp_cmp, ↓wp_bin, ↓wp_var, ↓getV_zero, ↓wp_int, ↓wv_fdiv, ↓wv_mod, ↓go_eq, ↓asBool_bool, ↓wps_ret, ↓wp_oSome, ↓wp_sub, ↓wp_list, ↓wp_cons, ↓wp_tup, ↓wp_nil, ↓wps_nil, ↓wv_add]
      refine ⟨by decide, by decide, ?_⟩
      rw [brB_pos q]
      refine ⟨by decide, by decide, ?_⟩
      rw [show Int.fmod (Int.fdiv c 160) 8 = (j : Int) from hj]
      refine ws_list (get_new H _) (by exact o204 lj) (v := .tup [.int ((sizes[j]).1 : Nat), .int ((sizes[j]).2 : Nat)]) ?_ ⟨rfl, ⟨_, rfl⟩⟩
      show (sizes.map fun p => Val.tup [.int (p.1 : Nat), .int (p.2 : Nat)])[j]? = _
      rw [List.getElem?_map, List.getElem?_eq_getElem lj']; rfl
  · refine ex1 (fmod_nat c 4 (by decide)) fun i zz => aNd2 zz fun hi li => ?_
    refine ex1 (fmod_nat (Int.fdiv c 4) 5 (by decide)) fun j zz => aNd2 zz fun hj lj => ?_
    refine ⟨1 + i, 1 + j, ⟨by unfold OkS; exact o205 li lj, by have := Nat.mul_le_mul (show 1 + i ≤ 4 by exact o206 li) (show 1 + j ≤ 5 by exact o207 lj); exact o208 this⟩, fun H => ?_⟩
    rw [wp_call (g := f8_05) rfl rfl, f8_05]
    simp only [List.map_cons, List.map_nil, List.replicate_zero, List.cons_append, List.nil_append, ↓wps_cons, ↓wps_ite, ↓wp_cmp, ↓wp_bin, ↓wp_var, ↓getV_zero, ↓wp_int, ↓wv_fdiv, ↓wv_mod, ↓go_eq, ↓asBool_bool, ↓wps_ret, ↓wp_oSome, ↓wp_sub, ↓wp_list, ↓wp_cons, ↓wp_tup, ↓wp_nil, ↓wps_nil, ↓wv_add]
    refine ⟨by decide, by decide, ?_⟩
    rw [brB_neg q]
    refine ⟨by decide, by decide, by decide, ?_, Ext.refl H⟩
    rw [show Int.fmod c 4 = (i : Int) from hi, show Int.fmod (Int.fdiv c 4) 5 = (j : Int) from hj]
    rfl
theorem gr_nums {ns : List Int} {r c k : Nat} {x2 x3 : Val} {a5 : Option Val} (hS : OkS r c) (hk : k < r) : wpE T_05 (callF T_05 (d + 2)) (.comp (.call 10 (.cons (.var 0) (.cons (.bin .add (.bin .mul (.var 4) (.sub (.var 1) (.int 1))) (.var 6)) .nil))) (.bf .range (.cons (.sub (.var 1) (.int 1)) .nil)) .none) [some (.script ns), some (.tup [.int (r : Int), .int (c : Int)]), some x2, some x3, some (.int (k : Int)), a5] H
    (fun v K => ∃ nums : List Val, v = .loc H.length ∧ K = H ++ [.list nums] ∧ nums.length = c ∧ ∀ x ∈ nums, ∃ n : Int, x = .int n) NoE := by
  have hlid : lid = 16777216 := rfl
  unfold OkS at hS
  refine comp_pure (xs := rngL c) (src := none) (fun _ v => ∃ n : Int, v = .int n) (it_rng (by exact o209 hS) ⟨rfl, rfl⟩) rfl (by rw [rngN_len]; exact o210 hS hlid) ?_ ?_
  · intro j x hx
    obtain ⟨hr0, lj⟩ := rngN_get hx; refine Eq.symm hr0 ▸ ?_
    obtain ⟨n, hn⟩ := l05_number (d := d) ns (k * c + j) (by have := Nat.mul_le_mul (show k ≤ 29 by exact o211 hS hk) (show c ≤ 30 by exact o212 hS); exact o213 hS lj this)
    show wpE _ _ _ [some (.script ns), some (.tup [.int (r : Int), .int (c : Int)]), some x2, some x3, some (.int (k : Int)), a5, some (.int (j : Int))] _ _ _
    simp only [↓wp_callE, ↓wp_cons, ↓wp_nil, ↓wp_var, ↓wp_bin, ↓wp_sub, ↓wp_int, ↓getV_s, ↓getV_zero, ↓getV_succ, ↓ws_tup1, ↓wv_mul, ↓wv_add]
    refine ⟨by rw [show small (k : Int) = true by unfold small; simp; exact o214 hS hk]; rfl, ?_⟩
    rw [show (k : Int) * (c : Int) + (j : Int) = ((k * c + j : Nat) : Int) by rw [Int.natCast_add, Int.natCast_mul]]
    exact (hn H).then fun v H' h => ⟨⟨n, h.1⟩, h.2⟩
  · intro ys hl hp
    refine ⟨ys, rfl, rfl, hl.trans (rngN_len c), fun x hx => ?_⟩
    obtain ⟨j, hj⟩ := List.mem_iff_getElem?.mp hx
    exact hp j x hj
theorem gr_row {nums : List Val} {c l kind : Nat} {xs : List Val} {x0 x1 x4 : Val} (hl : H[l]? = some (.list xs)) (xl : xs.length < 1000) (cl : c ≤ 1000) (ln : nums.length = c) (hn : ∀ x ∈ nums, ∃ n : Int, x = .int n)
    (q : ∀ w : List Val, w.length = c → (∀ v ∈ w, HV v) → QS [some x0, some x1, some (.int (kind : Int)), some (.loc l), some x4, some (.loc H.length)] (((H ++ [HObj.list nums]) ++ [HObj.list w]).set l (HObj.list (xs ++ [Val.loc (H.length + 1)])))) :
    wpSs T_05 (callF T_05 (d + 2)) (.cons (.expr (.bm (.var 3) .append (.cons (.comp (.call 9 (.cons (.var 6) (.cons (.var 2) .nil))) (.var 5) .none) .nil))) .nil) [some x0, some x1, some (.int (kind : Int)), some (.loc l), some x4, some (.loc H.length)] (H ++ [HObj.list nums]) QS R NoX := by
  have hlid : lid = 16777216 := rfl
  have e1 : Ext H (H ++ [HObj.list nums]) := ⟨_, rfl⟩
  refine wps_ex (fun K => QS [some x0, some x1, some (.int (kind : Int)), some (.loc l), some x4, some (.loc H.length)] K) ?_ (fun K h => h)
  refine wp_appendE rfl (e1.get hl) ?_
  refine comp_pure (xs := nums) (src := some H.length) (fun _ v => HV v) ⟨rfl, iter_list (get_new H _)⟩ (chk_list (get_new H _)) (by exact o215 hlid ln cl) ?_ ?_
  · intro j x hx
    obtain ⟨n, rfl⟩ := hn x (List.mem_of_getElem? hx)
    refine ex1 (l05_by (d := d + 1) n kind (by exact o156)) fun v zz => aNd2 zz fun hv hw => ?_
    exact (hw _).then fun w H' h => ⟨h.1 ▸ hv, h.2⟩
  · intro ys hl' hp
    refine ⟨_, Ext.get ⟨_, rfl⟩ (e1.get hl), by exact o216 xl hlid, ?_⟩
    have : (H ++ [HObj.list nums]).length = H.length + 1 := by rw [List.length_append]; rfl
    rw [this]
    refine q ys (hl'.trans ln) fun x hx => ?_
    obtain ⟨j, hj⟩ := List.mem_iff_getElem?.mp hx
    exact hp j x hj
theorem gr_more {K : Hp} {l c k : Nat} {g : List (List Val)} {w nums : List Val} (og : OkG g k c) (G : GAt K l (l + 2) 2 g) (hK : K.length = l + 1 + 2 * k) (lw : w.length = c) (hw : ∀ v ∈ w, HV v) :
    OkG (g ++ [w]) (k + 1) c ∧ GAt (((K ++ [HObj.list nums]) ++ [HObj.list w]).set l (HObj.list ((List.range g.length).map (fun i => Val.loc (l + 2 + 2 * i)) ++ [Val.loc (K.length + 1)]))) l (l + 2) 2 (g ++ [w]) := by
  have lK : (K ++ [HObj.list nums]).length = K.length + 1 := by rw [List.length_append]; rfl
  have e2 : Ext K (K ++ [HObj.list nums] ++ [HObj.list w]) := ⟨[HObj.list nums, HObj.list w], by rw [List.append_assoc]; rfl⟩
  refine ⟨⟨by rw [List.length_append, og.len]; rfl, fun i z h => ?_⟩, ⟨?_, fun i z h => ?_⟩⟩
  · rcases app_get h with h | ⟨_, rfl⟩
    · exact og.row i z h
    · exact ⟨lw, hw⟩
  · rw [get_set _ (e2.get G.top), List.length_append, List.length_singleton, List.range_succ, List.map_append, List.map_singleton, og.len, hK, show l + 1 + 2 * k + 1 = l + 2 + 2 * k by exact o217]
  · rcases app_get h with h | ⟨rfl, rfl⟩
    · exact get_other _ (by exact o218) (e2.get (G.row i z h))
    · refine get_other _ (by exact o218) ?_
      have := get_new (K ++ [HObj.list nums]) (.list z)
      rw [lK, hK] at this
      rw [og.len, show l + 2 + 2 * k = l + 1 + 2 * k + 1 by exact o219]
      exact this
inductive GInv (x0 x1 x2 : Val) (l c : Nat) : Nat → Env' → Hp → Prop
  | mk {k : Nat} {K : Hp} (g : List (List Val)) (a b : Option Val) (og : OkG g k c) (G : GAt K l (l + 2) 2 g) (hK : K.length = l + 1 + 2 * k) : GInv x0 x1 x2 l c k [some x0, some x1, some x2, some (.loc l), a, b] K
theorem l05_grid (ns : List Int) : Wp (callF T_05 (d + 3) 11 [.script ns]) H (fun v H' => ∃ r c g l, v = .loc l ∧ OkS r c ∧ r * c ≤ 63 ∧ OkG g r c ∧ GAt H' l (l + 2) 2 g) NoE := by
  refine ex2 (l05_size (d := d + 1) (cellAt ns 0)) fun r c zz => aNd2 zz fun zn2 hsz => ?_; obtain ⟨hS, hrc⟩ := zn2
  have hS' := hS
  unfold OkS at hS'
  rw [wp_call (g := f11_05) rfl rfl]
  refine wps_asg (fun v H' => v = .tup [.int r, .int c] ∧ Ext H H') ?_ ?_
  · show Wp (callF T_05 (d + 2) 5 [.script ns, .int ((0 : Nat) : Int)]) H _ _
    rw [l05_cell]
    exact hsz H
  clear hsz
  rintro _ H1 ⟨rfl, e1⟩
  refine wps_asg (fun v K => ∃ k : Nat, v = .int k ∧ H1 = K) ?_ ?_
  · show Wp (callF T_05 (d + 2) 5 [.script ns, .int ((1 : Nat) : Int)]) H1 _ _
    rw [l05_cell]
    refine ex1 (fmod_nat (cellAt ns 1) 4 (by decide)) fun k zz => aNd2 zz fun hk _ => ?_
    exact ⟨by decide, k, congrArg Val.int hk, rfl⟩
  rintro _ _ ⟨kind, rfl, rfl⟩
  refine wps_asg (fun v K => v = .loc H1.length ∧ K = H1 ++ [.list []]) ⟨rfl, rfl⟩ ?_
  rintro _ _ ⟨rfl, rfl⟩
  obtain ⟨I, hI⟩ := hide3 (GInv (.script ns) (.tup [.int r, .int c]) (.int kind) H1.length c)
  refine wps_seq (I r) ?_ ?_
  · refine wps_eachR (n := r) I ⟨rfl, rfl⟩ ⟨by exact o220 hS', by exact o221 hS'⟩ ((hI _ _ _).mpr (.mk [] _ _ ⟨rfl, fun i w h => nomatch h⟩ ⟨get_new H1 _, fun i w h => nomatch h⟩ (by rw [List.length_append]; rfl))) ?_ (fun Γ K h => by rw [Int.toNat_natCast] at h; exact h)
    intro k Γ K hk h
    obtain ⟨g, a, b, og, G, hK⟩ := (hI _ _ _).mp h
    refine wps_asg _ (gr_nums hS (by exact o151 hk)) ?_
    intro _ K1 zz
    refine ex1 zz fun nums zz => aNd4 zz fun zr1 zr2 ln hn => ?_; subst zr1; subst zr2
    refine gr_row G.top (by rw [List.length_map, List.length_range, og.len]; exact o222 hk hS') (by exact o223 hS' ln) ln hn fun w lw hw => (hI _ _ _).mpr ?_
    obtain ⟨og', G'⟩ := gr_more (nums := nums) og G hK lw hw
    exact .mk _ _ _ og' G' (by rw [List.length_set, List.length_append, List.length_append, hK]; show _ + 1 + 1 = _; exact o224)
  intro Γ K h
  obtain ⟨g, a, b, og, G, _⟩ := (hI _ _ _).mp h
  exact ⟨r, c, g, _, rfl, hS, hrc, og, G⟩
theorem row0 {l b s r c : Nat} {g : List (List Val)} (hS : OkS r c) (og : OkG g r c) (G : GAt H l b s g) : ∃ w x, g[0]? = some w ∧ w[0]? = some x ∧ HV x ∧ w.length = c ∧ ((List.range g.length).map fun i => Val.loc (b + s * i))[0]? = some (.loc b) ∧ H[b]? = some (.list w) := by
  unfold OkS at hS
  have lt : 0 < g.length := by rw [og.len]; exact o192 hS
  have hg : g[0]? = some g[0] := List.getElem?_eq_getElem lt
  obtain ⟨lw, hw⟩ := og.row 0 _ hg
  have lt' : 0 < g[0].length := by exact o225 hS lt lw
  have hx : g[0][0]? = some g[0][0] := List.getElem?_eq_getElem lt'
  exact ⟨g[0], g[0][0], hg, hx, hw _ (List.mem_of_getElem? hx), lw, G.item lt, G.row 0 _ hg⟩
theorem LandAt.sink {o r c lg b s ls : Nat} {g : List (List Val)} {es es' : List (Key × Val)} (L : LandAt H o r c lg b s ls g es) : LandAt (H.set ls (.dict es')) o r c lg b s ls g es' := by
  refine ex1 L.inst fun fs zz => aNd2 zz fun h0 h => ?_
  have hs := L.sinks
  exact ⟨⟨fs, get_other _ (fun q => by rw [q, h0] at hs; exact nomatch hs) h0, h⟩, L.grid.other _ (fun q => by have := L.grid.top; rw [← q, hs] at this; exact nomatch this) (fun i hi q => by have := L.grid.row i _ (List.getElem?_eq_getElem hi); rw [← q, hs] at this; exact nomatch this), get_set _ hs⟩
theorem len_rows {l b s r c : Nat} {g : List (List Val)} (og : OkG g r c) : ((List.range g.length).map fun i => Val.loc (b + s * i)).length = r := by rw [List.length_map, List.length_range, og.len]
end
end Mine.Pure
-- part L5I
namespace Mine.Pure
open PySem
theorem dget_put (es : List (Key × Val)) (k : Key) (v : Val) (k' : Key) : dget (dput es k v) k' = if k' = k then some v else dget es k' := by
  unfold dget
  induction es with
  | nil =>
    show List.lookup k' [(k, v)] = _
    rw [List.lookup_cons]
    by_cases q : k' = k
    · rw [if_pos q, q, beq_self_eq_true]
    · rw [if_neg q, beq_eq_false_iff_ne.mpr q]
  | cons e es ih =>
    obtain ⟨a, b⟩ := e
    have st : dput ((a, b) :: es) k v = if a = k then (a, v) :: es else (a, b) :: dput es k v := rfl
    rw [st]
    by_cases q : a = k
    · refine q ▸ ?_
      rw [if_pos rfl, List.lookup_cons, List.lookup_cons]
      by_cases c : k' = a
      · rw [if_pos c, c, beq_self_eq_true]
      · rw [if_neg c, beq_eq_false_iff_ne.mpr c]
    · rw [if_neg q, List.lookup_cons, List.lookup_cons, ih]
      by_cases c : k' = a
      · rw [c, beq_self_eq_true]
        exact (if_neg q).symm
      · rw [beq_eq_false_iff_ne.mpr c]
theorem dput_len (es : List (Key × Val)) (k : Key) (v : Val) : (dput es k v).length ≤ es.length + 1 := by
  induction es with
  | nil => exact Nat.le_refl _
  | cons e es ih =>
    obtain ⟨a, b⟩ := e
    have st : dput ((a, b) :: es) k v = if a = k then (a, v) :: es else (a, b) :: dput es k v := rfl
    rw [st]
    by_cases q : a = k
    · rw [if_pos q]; simp
    · rw [if_neg q]; simp; omega
section
variable {T : Tab} {Φ : Funs} {Γ : Env'} {H : Hp} {Q : Val → Hp → Prop} {E : Nat → Hp → Prop} {d l : Nat} {QS : Env' → Hp → Prop} {R : Val → Hp → Prop} {ES : Nat → Env' → Hp → Prop}
theorem notin_dict {l : Nat} {es : List (Key × Val)} {i j : Int} (h : H[l]? = some (.dict es)) : cmpV .notin (.tup [.int i, .int j]) (.loc l) H = some (!(dget es (i, j)).isSome) := by
  have e : cmpV .notin (.tup [.int i, .int j]) (.loc l) H = flip true (inV (.tup [.int i, .int j]) (.loc l) H) := rfl
  rw [e]
  unfold inV
  simp only [h]
  rfl
noncomputable def inR (r c : Nat) (k : Key) : Bool := decide (0 ≤ k.1 ∧ k.1 < r ∧ 0 ≤ k.2 ∧ k.2 < c)
theorem inR_nat {r c : Nat} {k : Key} (h : inR r c k = true) : ∃ i j : Nat, k = ((i : Int), (j : Int)) ∧ i < r ∧ j < c := by
  obtain ⟨a, b⟩ := k
  have h : 0 ≤ a ∧ a < r ∧ 0 ≤ b ∧ b < c := of_decide_eq_true h
  exact ⟨a.toNat, b.toNat, Prod.ext (show a = (a.toNat : Int) by exact o226 h) (show b = (b.toNat : Int) by exact o227 h), by exact o228 h, by exact o229 h⟩
theorem inR_of {r c i j : Nat} (hi : i < r) (hj : j < c) : inR r c ((i : Int), (j : Int)) = true := decide_eq_true (show 0 ≤ (i : Int) ∧ (i : Int) < r ∧ 0 ≤ (j : Int) ∧ (j : Int) < c by exact o230 hi hj)
noncomputable def gval (g : List (List Val)) (k : Key) : Option Val := (g[k.1.toNat]?).bind fun w => w[k.2.toNat]?
noncomputable def ival : Option Val → Option Int
  | some (.int i) => some i
  | _ => none
noncomputable def hgt (g : List (List Val)) (r c : Nat) (k : Key) : Option Int := if inR r c k = true then ival (gval g k) else none
theorem hgt_in {g : List (List Val)} {r c : Nat} {k : Key} {a : Int} (h : hgt g r c k = some a) : inR r c k = true := by
  unfold hgt at h
  by_cases q : inR r c k = true
  · exact q
  · rw [if_neg q] at h; exact nomatch h
theorem hgt_at {g : List (List Val)} {r c i j : Nat} (og : OkG g r c) (hi : i < r) (hj : j < c) : ∃ w x, g[i]? = some w ∧ w[j]? = some x ∧ ((x = .none ∧ hgt g r c ((i : Int), (j : Int)) = none) ∨ ∃ n, x = .int n ∧ 0 ≤ n ∧ hgt g r c ((i : Int), (j : Int)) = some n) := by
  obtain ⟨w, hw⟩ : ∃ w, g[i]? = some w := ⟨_, List.getElem?_eq_getElem (by rw [og.len]; exact hi)⟩
  obtain ⟨lw, hv⟩ := og.row i _ hw
  obtain ⟨x, hx⟩ : ∃ x, w[j]? = some x := ⟨_, List.getElem?_eq_getElem (by rw [lw]; exact hj)⟩
  have e : gval g ((i : Int), (j : Int)) = some x := by
    show (g[((i : Int)).toNat]?).bind (fun w => w[((j : Int)).toNat]?) = _
    rw [Int.toNat_natCast, Int.toNat_natCast, hw]
    exact hx
  refine ⟨w, x, hw, hx, ?_⟩
  unfold hgt
  rw [if_pos (inR_of hi hj), e]
  rcases hv _ (List.mem_of_getElem? hx) with q | ⟨n, q, h0, _⟩
  · rw [q]; exact .inl ⟨rfl, rfl⟩
  · rw [q]; exact .inr ⟨n, rfl, h0, rfl⟩
theorem map_get {ks : List Key} {n : Nat} {x : Val} (h : (ks.map valOf)[n]? = some x) : ∃ q, ks[n]? = some q ∧ x = valOf q := by
  rw [List.getElem?_map] at h
  cases e : ks[n]? with
  | none => rw [e] at h; cases h
  | some q => rw [e] at h; cases h; exact ⟨q, rfl, rfl⟩
end
end Mine.Pure
-- part L5J
namespace Mine.Pure
open PySem
noncomputable def keys (r c : Nat) : List Key := (List.range r).flatMap fun (i : Nat) => (List.range c).map fun (j : Nat) => ((i : Int), (j : Int))
theorem keys_cells (r c : Nat) : (keys r c).map valOf = cells r c := by
  unfold keys cells rowCells
  rw [List.map_flatMap]
  congr 1
  funext i
  rw [List.map_map]; rfl
theorem keys_len (r c : Nat) : (keys r c).length = r * c := by
  rw [← cells_len, ← keys_cells, List.length_map]
theorem mem_keys {r c : Nat} {k : Key} : k ∈ keys r c ↔ inR r c k = true := by
  unfold keys
  constructor
  · intro h
    refine ex1 (List.mem_flatMap.mp h) fun i zz => aNd2 zz fun hi h => ?_
    refine ex1 (List.mem_map.mp h) fun j zz => aNd2 zz fun hj hr0 => ?_; refine hr0 ▸ ?_
    exact inR_of (List.mem_range.mp hi) (List.mem_range.mp hj)
  · intro h
    refine ex2 (inR_nat h) fun i j zz => aNd3 zz fun zr2 hi hj => ?_; subst zr2
    exact List.mem_flatMap.mpr ⟨i, List.mem_range.mpr hi, List.mem_map.mpr ⟨j, List.mem_range.mpr hj, rfl⟩⟩
theorem mem_take_succ {α : Type} {l : List α} {n : Nat} {x y : α} (h : l[n]? = some x) : y ∈ l.take (n + 1) ↔ (y ∈ l.take n ∨ y = x) := by
  rw [take_snoc h, List.mem_append, List.mem_singleton]
end Mine.Pure
-- part L5O
namespace Mine.Pure
open PySem
noncomputable def rowKeys (i c : Nat) : List Key := (List.range c).map fun (j : Nat) => ((i : Int), (j : Int))
theorem keys_succ (r c : Nat) : keys (r + 1) c = keys r c ++ rowKeys r c := by
  unfold keys rowKeys; rw [List.range_succ]; simp
theorem rowKeys_succ (i c : Nat) : rowKeys i (c + 1) = rowKeys i c ++ [((i : Int), (c : Int))] := by
  unfold rowKeys; rw [List.range_succ, List.map_append]; rfl
theorem rowKeys_len (i c : Nat) : (rowKeys i c).length = c := by unfold rowKeys; rw [List.length_map, List.length_range]
noncomputable def dpick (g : List (List Val)) (r c : Nat) (n e : Int) (k : Key) : Bool := (hgt g r c k).isSome && decide (Int.fmod (n + (k.1 * c + k.2) * (1 + Int.fmod (Int.fdiv n 12) 5)) e = 0)
section
variable {T : Tab} {Φ : Funs} {Γ : Env'} {H K : Hp} {Q : Val → Hp → Prop} {E : Nat → Hp → Prop} {d : Nat} {QS : Env' → Hp → Prop} {R : Val → Hp → Prop} {ES : Nat → Env' → Hp → Prop} {l b s r c : Nat} {g : List (List Val)}
theorem row0N (hS : OkS r c) (og : OkG g r c) (G : GAt H l b s g) : ∃ w, ((List.range g.length).map fun i => Val.loc (b + s * i))[0]? = some (.loc b) ∧ H[b]? = some (.list w) ∧ w.length = c := by
  refine ex2 (row0 hS og G) fun w x zz => aNd6 zz fun _ _ _ lw hi hr => ?_
  exact ⟨w, hi, hr, lw⟩
theorem len0 {w : List Val} (h1 : ((List.range g.length).map fun i => Val.loc (b + s * i))[0]? = some (.loc b)) (top : H[l]? = some (.list ((List.range g.length).map fun i => Val.loc (b + s * i)))) (h2 : H[b]? = some (.list w)) : Wp (subV (.loc l) (.int 0)) H (fun v H' => Wp (bfV .len [v]) H' Q E) E = Q (.int (w.length : Nat)) H := by
  rw [show (0 : Int) = ((0 : Nat) : Int) from rfl, ws_eq3 top h1, wv_len_loc h2]
theorem wv_at {i j : Nat} {w : List Val} {x : Val} (G : GAt H l b s g) (hw : g[i]? = some w) (hx : w[j]? = some x) : Wp (subV (.loc l) (.int (i : Int))) H (fun v H' => Wp (subV v (.int (j : Int))) H' Q E) E = Q x H := by
  rw [ws_eq3 G.top (G.item (List.getElem?_eq_some_iff.mp hw).1), ws_eq3 (G.row i w hw) hx]
theorem ld_cond {i j : Nat} {n e : Int} {x0 x4 : Val} (og : OkG g r c) (G : GAt H l b s g) (hi : i < r) (hj : j < c) (h0 : e ≠ 0) (sm : small ((i : Int) * (c : Int) + (j : Int)) = true) :
    wpE T_05 (callF T_05 (d + 1)) (.and (.cmp .isNot (.sub (.sub (.var 1) (.var 5)) (.var 6)) .none) (.cmp .eq (.bin .mod (.bin .add (.var 2) (.bin .mul (.var 7) (.bin .add (.int 1) (.bin .mod (.bin .fdiv (.var 2) (.int 12)) (.int 5))))) (.var 3)) (.int 0)))
      [some x0, some (.loc l), some (.int n), some (.int e), some x4, some (.int (i : Int)), some (.int (j : Int)), some (.int ((i : Int) * (c : Int) + (j : Int)))] H (fun v K => v = .bool (dpick g r c n e ((i : Int), (j : Int))) ∧ K = H) NoE := by
  refine ex2 (hgt_at og hi hj) fun w' y zz => aNd3 zz fun hw' hy hcase => ?_
  show Wp (subV (.loc l) (.int (i : Int))) H (fun v H' => Wp (subV v (.int (j : Int))) H' _ _) _
  rw [wv_at G hw' hy]
  rcases hcase with ⟨rfl, hn⟩ | ⟨a, rfl, _, ha⟩
  · exact ⟨congrArg Val.bool (show false = ((hgt g r c ((i : Int), (j : Int))).isSome && _) by rw [hn]; rfl), rfl⟩
  · exact ⟨by decide, by decide, by rw [sm]; rfl, h0, congrArg Val.bool (show decide _ = ((hgt g r c ((i : Int), (j : Int))).isSome && decide _) by rw [ha]; rfl), rfl⟩
theorem ld_step {ns : List Int} {ks : List Key} {i j : Nat} {n e : Int} {a7 : Option Val} (hS : OkS r c) (og : OkG g r c) (G : GAt K l b s g) (hi : i < r) (hj : j < c) (h0 : e ≠ 0) (kl : ks.length < 1000)
    (q : ∀ a7, QS [some (.script ns), some (.loc l), some (.int n), some (.int e), some (.loc K.length), some (.int (i : Int)), some (.int (j : Int)), a7] (K ++ [.list ((ks ++ [((i : Int), (j : Int))].filter (dpick g r c n e)).map valOf)])) :
    wpSs T_05 (callF T_05 (d + 1)) (.cons (.assign 7 (.bin .add (.bin .mul (.var 5) (.bf .len (.cons (.sub (.var 1) (.int 0)) .nil))) (.var 6))) (.cons (.ite (.and (.cmp .isNot (.sub (.sub (.var 1) (.var 5)) (.var 6)) .none) (.cmp .eq (.bin .mod (.bin .add (.var 2) (.bin .mul (.var 7) (.bin .add (.int 1) (.bin .mod (.bin .fdiv (.var 2) (.int 12)) (.int 5))))) (.var 3)) (.int 0))) (.cons (.expr (.bm (.var 4) .append (.cons (.tup (.cons (.var 5) (.cons (.var 6) .nil))) .nil))) .nil) .nil) .nil)) [some (.script ns), some (.loc l), some (.int n), some (.int e), some (.loc K.length), some (.int (i : Int)), some (.int (j : Int)), a7] (K ++ [.list (ks.map valOf)]) QS R NoX := by
  have hlid : lid = 16777216 := rfl
  unfold OkS at hS
  have GK : GAt (K ++ [.list (ks.map valOf)]) l b s g := G.ext ⟨_, rfl⟩
  have mul := Nat.mul_le_mul (show i ≤ 29 by exact o211 hS hi) (show c ≤ 30 by exact o212 hS)
  have sm : small ((i : Int) * (c : Int) + (j : Int)) = true := by
    rw [show ((i : Int) * (c : Int) + (j : Int)) = ((i * c + j : Nat) : Int) by rw [Int.natCast_add, Int.natCast_mul]]
    unfold small; simp; omega
  have smi : small (i : Int) = true := by unfold small; simp; exact o214 hS hi
  refine wps_asg (fun v K' => v = .int ((i : Int) * (c : Int) + (j : Int)) ∧ K' = K ++ [.list (ks.map valOf)]) ?_ ?_
  · refine ex1 (row0N (by unfold OkS; exact hS) og GK) fun w zz => aNd3 zz fun h1 h2 lw => ?_
    simp only [↓wp_bin, ↓wp_bf, ↓wp_cons, ↓wp_nil, ↓wp_sub, ↓wp_var, ↓wp_int, ↓getV_s, ↓getV_zero]
    rw [len0 h1 GK.top h2, lw]
    exact ⟨by rw [smi]; rfl, rfl, rfl⟩
  rintro v K' ⟨rfl, rfl⟩
  refine wpE_then (ld_cond og GK hi hj h0 sm) ?_
  rintro v K' ⟨rfl, rfl⟩
  refine brB_cases (fun h => ?_) (fun h => ?_)
  · rw [List.filter_cons_of_pos h] at q
    refine wps_ex (fun K' => K' = K ++ [.list ((ks ++ [((i : Int), (j : Int))]).map valOf)]) ?_ (fun K' h => by rw [h]; exact q _)
    refine wp_appendE rfl (get_new K _) ?_
    refine ⟨_, get_new K _, by rw [List.length_map]; exact o216 kl hlid, ?_⟩
    rw [set_new, List.map_append]; rfl
  · rw [List.filter_cons_of_neg (by rw [h]; exact Bool.false_ne_true), List.filter_nil, List.append_nil] at q
    exact q _
theorem ld_every (n : Int) : ∃ e : Int, e ≠ 0 ∧ ∀ (x0 x1 : Val) (H : Hp), wpE T_05 (callF T_05 d) (.sub (.list (.cons (.int 2) (.cons (.int 3) (.cons (.int 5) (.cons (.int 9) (.cons (.int 14) .nil)))))) (.bin .mod (.bin .fdiv (.var 2) (.int 60)) (.int 5))) [some x0, some x1, some (.int n), none, none, none, none, none] H (fun v K => v = .int e ∧ Ext H K) NoE := by
  refine ex1 (fmod_nat (Int.fdiv n 60) 5 (by decide)) fun k zz => aNd2 zz fun hk lk => ?_
  obtain ⟨e, he⟩ : ∃ e, ([2, 3, 5, 9, 14] : List Int)[k]? = some e := ⟨_, List.getElem?_eq_getElem lk⟩
  have h0 : ∀ e ∈ ([2, 3, 5, 9, 14] : List Int), e ≠ 0 := by decide
  refine ⟨e, h0 e (List.mem_of_getElem? he), fun x0 x1 H => ⟨by decide, by decide, ?_⟩⟩
  rw [show Int.fmod (Int.fdiv n 60) 5 = (k : Int) from hk]
  refine ws_list (get_new H _) (by exact o231 lk) ?_ ⟨rfl, ⟨_, rfl⟩⟩
  show (([2, 3, 5, 9, 14] : List Int).map Val.int)[k]? = _
  rw [List.getElem?_map, he]; rfl
theorem l05_ldrains (ns : List Int) (hS : OkS r c) (og : OkG g r c) (G : GAt H l b s g) :
    Wp (callF T_05 (d + 2) 12 [.script ns, .loc l]) H (fun v H' => ∃ m n e, v = .loc m ∧ H.length ≤ m ∧ Ext H H' ∧ H'[m]? = some (.list (((keys r c).filter (dpick g r c n e)).map valOf))) NoE := by
  have hS' := hS
  unfold OkS at hS'
  rw [wp_call (g := f12_05) rfl rfl]
  refine wps_asg (fun v K => ∃ n, v = .int n ∧ K = H) ?_ ?_
  · show Wp (callF T_05 (d + 1) 5 [.script ns, .int ((2 : Nat) : Int)]) H _ _
    rw [l05_cell]
    exact ⟨_, rfl, rfl⟩
  rintro v K ⟨n, rfl, rfl⟩
  refine ex1 (ld_every (d := d + 1) n) fun e zz => aNd2 zz fun h0 he => ?_
  refine wps_asg _ (he _ _ _) ?_
  clear he
  rintro v H1 ⟨rfl, e1⟩
  have G1 := G.ext e1
  refine wps_asg (fun v K => v = .loc H1.length ∧ K = H1 ++ [.list (([] : List Key).map valOf)]) ⟨rfl, rfl⟩ ?_
  rintro v K ⟨rfl, rfl⟩
  have ll := len_rows og (b := b) (s := s) (l := l)
  obtain ⟨I, hI⟩ := hide3 (fun (i : Nat) (Γ : Env') (K : Hp) => ∃ a5 a6 a7, Γ = [some (.script ns), some (.loc l), some (.int n), some (.int e), some (.loc H1.length), a5, a6, a7] ∧ K = H1 ++ [.list (((keys i c).filter (dpick g r c n e)).map valOf)])
  refine wps_seq (I r) ?_ ?_
  · refine wps_eachR (n := r) I ?_ ⟨by exact o232 hS' ll, by exact o233 hS' ll⟩ ((hI _ _ _).mpr ⟨_, _, _, rfl, rfl⟩) ?_ (fun Γ K h => by rw [Int.toNat_natCast] at h; exact h)
    · show Wp (bfV .len [.loc l]) _ _ _
      rw [wv_len_loc (Ext.get ⟨_, rfl⟩ G1.top), ll]; exact ⟨rfl, rfl⟩
    · intro i Γ K hi h
      refine ex3 ((hI _ _ _).mp h) fun a5 a6 a7 zz => aNd2 zz fun zr3 zr4 => ?_; subst zr3; subst zr4
      have hi' : i < r := by exact o234 hi ll
      obtain ⟨J, hJ⟩ := hide3 (fun (j : Nat) (Γ : Env') (K : Hp) => ∃ a6 a7, Γ = [some (.script ns), some (.loc l), some (.int n), some (.int e), some (.loc H1.length), some (.int (i : Int)), a6, a7] ∧ K = H1 ++ [.list (((keys i c ++ rowKeys i j).filter (dpick g r c n e)).map valOf)])
      refine wps_eachR (n := c) J ?_ ⟨by exact o235 hS', by exact o236 hS'⟩ ((hJ _ _ _).mpr ⟨_, _, rfl, by rw [show rowKeys i 0 = [] from rfl, List.append_nil]⟩) ?_ ?_
      · refine ex1 (row0N hS og G1) fun w zz => aNd3 zz fun h1 h2 lw => ?_
        have e0 : Ext H1 (H1 ++ [HObj.list (((keys i c).filter (dpick g r c n e)).map valOf)]) := ⟨_, rfl⟩
        show Wp (subV (.loc l) (.int 0)) _ (fun v H' => Wp (bfV .len [v]) H' _ _) _
        rw [len0 h1 (e0.get G1.top) (e0.get h2), lw]; exact ⟨rfl, rfl⟩
      · intro j Γ K hj h
        refine ex2 ((hJ _ _ _).mp h) fun a6 a7 zz => aNd2 zz fun zr2 zr3 => ?_; subst zr2; subst zr3
        refine ld_step hS og G1 hi' (by exact o151 hj) h0 ?_ fun a7 => (hJ _ _ _).mpr ⟨_, _, rfl, ?_⟩
        · have := List.length_filter_le (dpick g r c n e) (keys i c ++ rowKeys i j)
          rw [List.length_append, keys_len, rowKeys_len] at this
          have := Nat.mul_le_mul (show i ≤ 29 by exact o237 hi hS' ll) (show c ≤ 30 by exact o212 hS')
          omega
        · rw [rowKeys_succ, ← List.append_assoc, ← List.filter_append]
      · intro Γ K h
        refine ex2 ((hJ _ _ _).mp h) fun a6 a7 zz => aNd2 zz fun zr2 zr3 => ?_; subst zr2; subst zr3
        refine (hI _ _ _).mpr ⟨_, _, _, rfl, ?_⟩
        rw [Int.toNat_natCast, ← keys_succ]
  intro Γ K h
  refine ex3 ((hI _ _ _).mp h) fun a5 a6 a7 zz => aNd2 zz fun zr3 zr4 => ?_; subst zr3; subst zr4
  exact ⟨H1.length, n, e, rfl, e1.len, e1.trans ⟨_, rfl⟩, get_new H1 _⟩
end
end Mine.Pure
-- part L5Q
namespace Mine.Pure
open PySem
theorem dput_in (es : List (Key × Val)) (k : Key) (v : Val) (k' : Key) : inD (dput es k v) (valOf k') = true ↔ (inD es (valOf k') = true ∨ k' = k) := by
  show (dget (dput es k v) k').isSome = true ↔ ((dget es k').isSome = true ∨ k' = k)
  rw [dget_put]
  by_cases e : k' = k
  · rw [if_pos e]; exact ⟨fun _ => .inr e, fun _ => rfl⟩
  · rw [if_neg e]; exact ⟨fun h => .inl h, fun h => h.resolve_right e⟩
noncomputable def Uniq (es : List (Key × Val)) : Prop := (es.map Prod.fst).Nodup
theorem dput_keys (es : List (Key × Val)) (k : Key) (v : Val) (x : Key) : x ∈ (dput es k v).map Prod.fst → x ∈ es.map Prod.fst ∨ x = k := by
  induction es with
  | nil => intro h; cases h with
    | head => exact .inr rfl
    | tail _ h => cases h
  | cons e es ih =>
    obtain ⟨a, b⟩ := e
    have st : dput ((a, b) :: es) k v = if a = k then (a, v) :: es else (a, b) :: dput es k v := rfl
    rw [st]
    by_cases q : a = k
    · rw [if_pos q]; exact .inl
    · rw [if_neg q]
      intro h
      cases h with
      | head => exact .inl (.head _)
      | tail _ h => exact (ih h).imp (fun h => .tail _ h) id
theorem dput_uniq {es : List (Key × Val)} (h : Uniq es) (k : Key) (v : Val) : Uniq (dput es k v) := by
  induction es with
  | nil => exact List.nodup_cons.mpr ⟨List.not_mem_nil, .nil⟩
  | cons e es ih =>
    obtain ⟨a, b⟩ := e
    obtain ⟨h1, h2⟩ := List.nodup_cons.mp h
    have st : dput ((a, b) :: es) k v = if a = k then (a, v) :: es else (a, b) :: dput es k v := rfl
    rw [st]
    by_cases q : a = k
    · rw [if_pos q]; exact h
    · rw [if_neg q]
      exact List.nodup_cons.mpr ⟨fun m => (dput_keys es k v a m).elim h1 q, ih h2⟩
section
variable {T : Tab} {Φ : Funs} {Γ : Env'} {H K : Hp} {Q : Val → Hp → Prop} {E : Nat → Hp → Prop} {d : Nat} {QS : Env' → Hp → Prop} {R : Val → Hp → Prop} {ES : Nat → Env' → Hp → Prop} {l b s r c : Nat} {g : List (List Val)}
theorem ld_new (hS : OkS r c) (og : OkG g r c) (G : GAt H l b s g) {x1 x2 x3 : Option Val} : wpE T_05 (callF T_05 (d + 4)) (.new 7 (.cons (.comp (.bf .list (.cons (.var 4) .nil)) (.var 0) .none) .nil)) [some (.loc l), x1, x2, x3] H (fun v K => ∃ o lg b' ls, v = .loc o ∧ Ext H K ∧ LandAt K o r c lg b' 1 ls g [] ∧ H.length ≤ o ∧ H.length ≤ lg ∧ H.length ≤ b' ∧ H.length ≤ ls) NoE := by
  unfold OkS at hS
  refine wp_copy (l := l) (b := b) (s := s) (g := g) rfl G (by rw [og.len]; show r < 16777216; exact o238 hS) ⟨rfl, rfl⟩ ?_
  intro K e GK hK
  refine (wn_land (d := d + 1) (by unfold OkS; exact hS) og GK).then ?_
  intro v K2 zz
  refine aNd3 zz fun zr0 e2 zz => ex3 zz fun lg b' ls zz => aNd4 zz fun L h1 h2 h3 => ?_; subst zr0
  have le := e.len
  exact ⟨_, lg, b', ls, rfl, e.trans e2, L, le, by exact o239 hS h1 hK h2, by exact o240 h1 hK, by exact o240 h3 hK⟩
theorem ld_open {o lg b' ls i j : Nat} {es : List (Key × Val)} {w : List Val} {a : Int} {x0 x1 : Val} (LK : LandAt K o r c lg b' 1 ls g es) (hi : i < r) (hj : j < c) (hw : g[i]? = some w) (hx : w[j]? = some (.int a)) (el : es.length < 1000)
    (q : QS [some x0, some x1, some (.loc o), some (valOf ((i : Int), (j : Int)))] (K.set ls (.dict (dput es ((i : Int), (j : Int)) (.bool true))))) :
    wpSs T_05 (callF T_05 (d + 4)) (.cons (.expr (.umeth (.var 2) 5 (.cons (.var 3) .nil))) .nil) [some x0, some x1, some (.loc o), some (valOf ((i : Int), (j : Int)))] K QS R NoX := by
  have hlid : lid = 16777216 := rfl
  refine ex1 LK.inst fun fs zz => aNd2 zz fun f0 _ => ?_
  show Wp (umethOf T_05 (.loc o) 5) K _ _
  rw [wu_meth3 f0 (show T_05.meth 7 5 = some 26 from rfl)]
  refine (l05_opened (d := d) hi hj LK hw hx (by exact o216 el hlid)).then ?_
  rintro v K' ⟨_, rfl⟩
  exact q
theorem l05_land {m : Nat} {ks : List Key} (hS : OkS r c) (og : OkG g r c) (G : GAt H l b s g) (hm : H[m]? = some (.list (ks.map valOf))) (hk : ∀ k ∈ ks, ∃ a, hgt g r c k = some a) (kl : ks.length < 1000) :
    Wp (callF T_05 (d + 5) 13 [.loc l, .loc m]) H (fun v H' => ∃ o lg b' ls es, v = .loc o ∧ Ext H H' ∧ LandAt H' o r c lg b' 1 ls g es ∧ (∀ k, inD es (valOf k) = true ↔ k ∈ ks) ∧ Uniq es ∧ es.length ≤ ks.length ∧ H.length ≤ o ∧ H.length ≤ lg ∧ H.length ≤ b' ∧ H.length ≤ ls) NoE := by
  rw [wp_call (g := f13_05) rfl rfl]
  refine wps_asg _ (ld_new hS og G) ?_
  clear G hS
  intro v K zz
  refine ex4 zz fun o lg b' ls zz => aNd7 zz fun zr4 e L h1 h2 h3 h4 => ?_; subst zr4
  obtain ⟨I, hI⟩ := hide3 (fun (n : Nat) (Γ : Env') (K : Hp) => ∃ es a, Γ = [some (.loc l), some (.loc m), some (.loc o), a] ∧ Ext H K ∧ LandAt K o r c lg b' 1 ls g es ∧ (∀ k, inD es (valOf k) = true ↔ k ∈ ks.take n) ∧ es.length ≤ n ∧ Uniq es)
  refine wps_seq (I ks.length) ?_ ?_
  · apply wps_each
    show getO (iterOf (.loc m) K) _
    rw [getO_of (iter_list (e.get hm))]
    show WpS (eachL (chk (some m) (ks.map valOf)) (bind1 3) _ (ks.map valOf) _ _) _ _ _
    refine wps_eachN I ((hI _ _ _).mpr ⟨[], none, rfl, e, L, (fun k => ⟨(fun h => nomatch h), (fun h => nomatch h)⟩), Nat.le_refl _, .nil⟩) ?_ ?_ ?_
    · intro Γ K h
      rw [List.length_map] at h; exact h
    · intro n Γ K _ h
      refine ex2 ((hI _ _ _).mp h) fun es a zz => aNd3 zz fun _ eK _ => ?_
      exact chk_list (eK.get hm)
    · clear L e
      intro n z Γ K hz h
      refine ex2 ((hI _ _ _).mp h) fun es a zz => aNd6 zz fun zr2 eK LK hes el un => ?_; subst zr2
      refine ex1 (map_get hz) fun q zz => aNd2 zz fun hq hr2 => ?_; refine Eq.symm hr2 ▸ ?_
      have ln := (List.getElem?_eq_some_iff.mp hq).1
      obtain ⟨y, hy⟩ := hk q (List.mem_of_getElem? hq)
      refine ex2 (inR_nat (hgt_in hy)) fun i j zz => aNd3 zz fun zr2 hi hj => ?_; subst zr2
      refine ex2 (hgt_at og hi hj) fun w x zz => aNd3 zz fun hw hx hcase => ?_
      rcases hcase with ⟨_, hn⟩ | ⟨a', rfl, ha0, ha'⟩
      · rw [hn] at hy; exact nomatch hy
      refine ⟨_, rfl, ld_open LK hi hj hw hx (by exact o241 kl ln el) ((hI _ _ _).mpr ⟨_, _, rfl, eK.set h4 _, LK.sink, fun k => ?_, Nat.le_trans (dput_len _ _ _) (Nat.succ_le_succ el), dput_uniq un _ _⟩)⟩
      rw [dput_in, hes, mem_take_succ hq]
  intro Γ K h
  refine ex2 ((hI _ _ _).mp h) fun es a zz => aNd6 zz fun hr4 eK LK hes el un => ?_; refine Eq.symm hr4 ▸ ?_
  rw [List.take_length] at hes
  exact ⟨o, lg, b', ls, es, rfl, eK, LK, hes, un, el, h1, h2, h3, h4⟩
theorem wv_list0 (hS : OkS r c) (og : OkG g r c) (G : GAt H l b s g) : Wp (subV (.loc l) (.int 0)) H (fun v H' => Wp (bfV .len [v]) H' Q E) E = Q (.int (c : Int)) H := by
  refine ex1 (row0N hS og G) fun w zz => aNd3 zz fun h1 h2 lw => ?_
  rw [show (0 : Int) = ((0 : Nat) : Int) from rfl, ws_eq3 G.top h1, wv_len_loc h2, lw]
end
end Mine.Pure
-- part L5R
namespace Mine.Pure
open PySem
noncomputable def wholeV (lo hi : Int) : Val → Bool
  | .int i => decide (lo ≤ i) && decide (i ≤ hi)
  | _ => false
noncomputable def isH : Val → Bool
  | .none => true
  | v => wholeV 0 1000000000 v
noncomputable def isNo : Val → Bool
  | .none => true
  | _ => false
noncomputable def place (r c : Nat) : Val → Option Key
  | .tup [.int i, .int j] => if inR r c (i, j) = true then some (i, j) else none
  | _ => none
noncomputable def gput (g : List (List Val)) (q : Key) (v : Val) : List (List Val) := g.set q.1.toNat (((g[q.1.toNat]?).getD []).set q.2.toNat v)
noncomputable def gat (g : List (List Val)) (q : Key) : Val := (gval g q).getD .none
noncomputable def sadd (S : Key → Bool) (q : Key) : Key → Bool := fun k => S k || decide (k = q)
noncomputable def srem (S : Key → Bool) (q : Key) : Key → Bool := fun k => S k && !decide (k = q)
inductive Out where
  | val (v : Val)
  | exc (c : Nat)
structure Aft where
  out : Out
  g : List (List Val)
  S : Key → Bool
noncomputable def act (k : Nat) (p : Option Key) (h : Val) (g : List (List Val)) (S : Key → Bool) : Aft := match p with
  | none => ⟨.exc 3, g, S⟩
  | some q => match k with
    | 0 => if isH h = true then ⟨.val .none, gput g q h, if (isNo h && S q) = true then srem S q else S⟩ else ⟨.exc 2, g, S⟩
    | 1 => if isNo (gat g q) = true then ⟨.exc 4, g, S⟩ else ⟨.val .none, g, sadd S q⟩
    | 2 => if S q = true then ⟨.val .none, g, srem S q⟩ else ⟨.exc 4, g, S⟩
    | 3 => ⟨.val (.bool (S q)), g, S⟩
    | _ => ⟨.val (gat g q), g, S⟩
noncomputable def wordC : Nat → Str
  | 2 => "height"
  | 3 => "cell"
  | _ => "drain"
noncomputable def told : Out → Val
  | .val v => v
  | .exc c => .str (wordC c)
noncomputable def Flat : Val → Prop
  | .none => True
  | .bool _ => True
  | .int _ => True
  | .str _ => True
  | .tup _ => True
  | _ => False
noncomputable def Kn (H : Hp) : Val → Prop
  | .none => True
  | .tup vs => ∀ x ∈ vs, Flat x
  | .loc l => ∃ xs, H[l]? = some (.list xs)
  | _ => False
structure Keep (P : Nat → Prop) (H H' : Hp) : Prop where
  len : H.length ≤ H'.length
  get : ∀ m ob, ¬ P m → H[m]? = some ob → H'[m]? = some ob
theorem Keep.refl (P : Nat → Prop) (H : Hp) : Keep P H H := ⟨Nat.le_refl _, fun _ _ _ h => h⟩
theorem Keep.trans {P : Nat → Prop} {H H1 H2 : Hp} (x : Keep P H H1) (y : Keep P H1 H2) : Keep P H H2 := ⟨Nat.le_trans x.len y.len, fun m ob n h => y.get m ob n (x.get m ob n h)⟩
theorem Keep.ext {P : Nat → Prop} {H H' : Hp} (e : Ext H H') : Keep P H H' := ⟨e.len, fun _ _ _ h => e.get h⟩
theorem Keep.set {P : Nat → Prop} {H : Hp} {m : Nat} (hm : P m) (ob : HObj) : Keep P H (H.set m ob) := ⟨by rw [List.length_set]; exact Nat.le_refl _, fun k o n h => get_other ob (fun e => n (e ▸ hm)) h⟩
inductive Ld (P : Nat → Prop) (H : Hp) (o r c : Nat) (g : List (List Val)) (S : Key → Bool) (N : Nat) : Prop
  | mk {lg b ls : Nat} {es : List (Key × Val)} (L : LandAt H o r c lg b 1 ls g es) (po : P o) (pg : P lg) (ps : P ls) (pr : ∀ i, i < r → P (b + 1 * i)) (hS : ∀ k, inD es (valOf k) = S k) (len : es.length ≤ N) (nd : Uniq es) : Ld P H o r c g S N
theorem LandAt.keep {P : Nat → Prop} {H H' : Hp} {o r c lg b ls : Nat} {g : List (List Val)} {es : List (Key × Val)} (k : Keep P H H') (L : LandAt H o r c lg b 1 ls g es) (og : g.length = r) (po : ¬ P o) (pg : ¬ P lg) (ps : ¬ P ls) (pr : ∀ i, i < r → ¬ P (b + 1 * i)) : LandAt H' o r c lg b 1 ls g es := by
  refine ex1 L.inst fun fs zz => aNd2 zz fun h0 h => ?_
  exact ⟨⟨fs, k.get _ _ po h0, h⟩, ⟨k.get _ _ pg L.grid.top, fun i w hw => k.get _ _ (pr i (by rw [← og]; exact (List.getElem?_eq_some_iff.mp hw).1)) (L.grid.row i w hw)⟩, k.get _ _ ps L.sinks⟩
theorem Ld.keep {P Q : Nat → Prop} {H H' : Hp} {o r c N : Nat} {g : List (List Val)} {S : Key → Bool} (x : Ld P H o r c g S N) (og : OkG g r c) (dis : ∀ m, P m → ¬ Q m) (k : Keep Q H H') : Ld P H' o r c g S N := by
  obtain ⟨L, po, pg, ps, pr, hS, len, nd⟩ := x
  exact ⟨L.keep k og.len (dis _ po) (dis _ pg) (dis _ ps) (fun i hi => dis _ (pr i hi)), po, pg, ps, pr, hS, len, nd⟩
section
variable {T : Tab} {Φ : Funs} {Γ : Env'} {H : Hp} {Q : Val → Hp → Prop} {E : Nat → Hp → Prop} {d : Nat} {QS : Env' → Hp → Prop} {R : Val → Hp → Prop} {ES : Nat → Env' → Hp → Prop} {r c : Nat}
theorem l05_wholeK {x : Val} {lo hi : Int} (h : Flat x) : Wp (callF T_05 (d + 1) 0 [x, .int lo, .int hi]) H Q E = Q (.bool (wholeV lo hi x)) H := by
  rw [wp_call (g := f0_05) rfl rfl]
  cases x with
  | int i =>
    show brB (decide (lo ≤ i)) _ _ = Q (.bool (decide (lo ≤ i) && decide (i ≤ hi))) H
    cases decide (lo ≤ i) <;> rfl
  | none => rfl
  | bool b => rfl
  | str s => rfl
  | tup vs => rfl
  | _ => cases h
theorem place_two (r c : Nat) (x y : Val) : (place r c (.tup [x, y])).isSome = (wholeV 0 ((r : Int) - 1) x && wholeV 0 ((c : Int) - 1) y) := by
  have no : ∀ v : Val, place r c v = none → (place r c v).isSome = false := fun v h => by rw [h]; rfl
  cases x with
  | int i =>
    cases y with
    | int j =>
      show (if inR r c (i, j) = true then some (i, j) else none).isSome = ((decide (0 ≤ i) && decide (i ≤ (r : Int) - 1)) && (decide (0 ≤ j) && decide (j ≤ (c : Int) - 1)))
      by_cases h : inR r c (i, j) = true
      · rw [if_pos h]
        have h : 0 ≤ i ∧ i < r ∧ 0 ≤ j ∧ j < c := of_decide_eq_true h
        rw [decide_eq_true (show 0 ≤ i by exact o242 h), decide_eq_true (show i ≤ (r : Int) - 1 by exact o243 h), decide_eq_true (show 0 ≤ j by exact o244 h), decide_eq_true (show j ≤ (c : Int) - 1 by exact o245 h)]; rfl
      · rw [if_neg h]
        cases q : ((decide (0 ≤ i) && decide (i ≤ (r : Int) - 1)) && (decide (0 ≤ j) && decide (j ≤ (c : Int) - 1))) with
        | false => rfl
        | true =>
          simp only [Bool.and_eq_true, decide_eq_true_eq] at q
          exact absurd (decide_eq_true (show 0 ≤ i ∧ i < r ∧ 0 ≤ j ∧ j < c by exact o246 q)) h
    | _ => exact (Bool.and_false _).symm
  | _ => rfl
noncomputable def notPair : Val → Prop
  | .tup [_, _] => False
  | _ => True
theorem pair_or (v : Val) : (∃ x y, v = .tup [x, y]) ∨ (notPair v ∧ ∀ r c, place r c v = none) := by
  cases v with
  | tup vs =>
    cases vs with
    | nil => exact .inr ⟨trivial, fun _ _ => rfl⟩
    | cons x vs =>
      cases vs with
      | nil => exact .inr ⟨trivial, fun _ _ => by cases x <;> rfl⟩
      | cons y vs =>
        cases vs with
        | nil => exact .inl ⟨x, y, rfl⟩
        | cons z vs => exact .inr ⟨trivial, fun _ _ => by cases x <;> first | rfl | (cases y <;> rfl)⟩
  | _ => exact .inr ⟨trivial, fun _ _ => rfl⟩
theorem two_q {v : Val} {i : Nat} (k : Kn H v) (np : notPair v) (hi : Γ[i]? = some (some v)) (q : Q (.bool true) H) {e : ME} :
    wpE T Φ (.or (.not (.isinst (.var i) .tuple)) (.or (.cmp .ne (.bf .len (.cons (.var i) .nil)) (.int 2)) e)) Γ H Q E ∧ wpE T Φ (.or (.not (.isinst (.var i) .tuple)) (.cmp .ne (.bf .len (.cons (.var i) .nil)) (.int 2))) Γ H Q E := by
  have len : ∀ {Q : Val → Hp → Prop} {vs : List Val}, v = .tup vs → Q (.bool true) H → wpE T Φ (.cmp .ne (.bf .len (.cons (.var i) .nil)) (.int 2)) Γ H Q E := fun {Q vs} ev q => by
    subst ev
    rw [wp_cmp, wp_bf, wp_cons, wp_var, getV_of hi, wp_nil, wv_len_tup, wp_int, go_ne]
    have : vs.length ≠ 2 := fun e => by
      match vs, e with
      | [_, _], _ => exact np
    rw [decide_eq_false (show ¬ ((vs.length : Int) = 2) by exact o247 this)]
    exact q
  rw [wp_or, wp_not, wp_isinst, wp_var, getV_of hi]
  rw [wp_or, wp_not, wp_isinst, wp_var, getV_of hi]
  cases v with
  | none => exact ⟨q, q⟩
  | tup vs =>
    refine ⟨?_, len rfl q⟩
    show wpE T Φ (.or _ _) Γ H Q E
    rw [wp_or]
    exact len rfl q
  | loc l =>
    obtain ⟨xs, h⟩ := k
    rw [wi_list_tup l xs h, wi_list_tup l xs h]
    exact ⟨q, q⟩
  | _ => cases k
theorem l05_liesK {v : Val} (k : Kn H v) : Wp (callF T_05 (d + 2) 1 [.int (r : Int), .int (c : Int), v]) H (fun w K => w = .bool (place r c v).isSome ∧ K = H) NoE := by
  rw [wp_call (g := f1_05) rfl rfl, f1_05]
  rcases pair_or v with ⟨x, y, rfl⟩ | ⟨np, hp⟩
  · have kx := k x (.head _)
    have ky := k y (.tail _ (.head _))
    rw [place_two]
    show Wp (callF T_05 (d + 1) 0 [x, .int 0, .int ((r : Int) - 1)]) H _ _
    rw [l05_wholeK kx]
    refine brB_cases (fun e => ?_) fun e => ?_
    · rw [e]
      show Wp (callF T_05 (d + 1) 0 [y, .int 0, .int ((c : Int) - 1)]) H _ _
      rw [l05_wholeK ky]
      exact ⟨rfl, rfl⟩
    · rw [e]; exact ⟨rfl, rfl⟩
  · rw [hp, wps_cons, wps_ite]
    exact (two_q k np rfl ⟨rfl, rfl⟩ (e := .none)).2
end
end Mine.Pure
-- part L5S
namespace Mine.Pure
open PySem
theorem ddel_keys (es : List (Key × Val)) (k x : Key) : x ∈ (ddel es k).map Prod.fst → x ∈ es.map Prod.fst := by
  induction es with
  | nil => exact fun h => h
  | cons e es ih =>
    obtain ⟨a, b⟩ := e
    have st : ddel ((a, b) :: es) k = if a = k then es else (a, b) :: ddel es k := rfl
    rw [st]
    by_cases q : a = k
    · rw [if_pos q]; exact fun h => .tail _ h
    · rw [if_neg q]
      intro h
      cases h with
      | head => exact .head _
      | tail _ h => exact .tail _ (ih h)
theorem ddel_uniq {es : List (Key × Val)} (h : Uniq es) (k : Key) : Uniq (ddel es k) := by
  induction es with
  | nil => exact h
  | cons e es ih =>
    obtain ⟨a, b⟩ := e
    obtain ⟨h1, h2⟩ := List.nodup_cons.mp h
    have st : ddel ((a, b) :: es) k = if a = k then es else (a, b) :: ddel es k := rfl
    rw [st]
    by_cases q : a = k
    · rw [if_pos q]; exact h2
    · rw [if_neg q]; exact List.nodup_cons.mpr ⟨fun m => h1 (ddel_keys es k a m), ih h2⟩
theorem ddel_len (es : List (Key × Val)) (k : Key) : (ddel es k).length ≤ es.length := by
  induction es with
  | nil => exact Nat.le_refl _
  | cons e es ih =>
    obtain ⟨a, b⟩ := e
    have st : ddel ((a, b) :: es) k = if a = k then es else (a, b) :: ddel es k := rfl
    rw [st]
    by_cases q : a = k
    · rw [if_pos q]; exact Nat.le_succ _
    · rw [if_neg q]; exact Nat.succ_le_succ ih
theorem dget_none {es : List (Key × Val)} {k : Key} (h : ¬ k ∈ es.map Prod.fst) : dget es k = none := by
  induction es with
  | nil => rfl
  | cons e es ih =>
    obtain ⟨a, b⟩ := e
    show List.lookup k ((a, b) :: es) = none
    rw [List.lookup_cons, beq_eq_false_iff_ne.mpr fun q : k = a => h (q ▸ .head _)]
    exact ih fun m => h (.tail _ m)
theorem dget_del {es : List (Key × Val)} (h : Uniq es) (k k' : Key) : dget (ddel es k) k' = if k' = k then none else dget es k' := by
  induction es with
  | nil => skip; split <;> rfl
  | cons e es ih =>
    obtain ⟨a, b⟩ := e
    obtain ⟨h1, h2⟩ := List.nodup_cons.mp h
    have st : ddel ((a, b) :: es) k = if a = k then es else (a, b) :: ddel es k := rfl
    have lk : ∀ es', dget ((a, b) :: es') k' = if k' = a then some b else dget es' k' := fun es' => by
      show List.lookup k' ((a, b) :: es') = _
      rw [List.lookup_cons]
      by_cases q : k' = a
      · rw [if_pos q, q, beq_self_eq_true]
      · rw [if_neg q, beq_eq_false_iff_ne.mpr q]; rfl
    rw [st]
    by_cases q : a = k
    · rw [if_pos q]
      by_cases q' : k' = k
      · rw [if_pos q', q', ← q]; exact dget_none h1
      · rw [if_neg q', lk, if_neg fun e => q' (e.trans q)]
    · rw [if_neg q, lk, ih h2, lk]
      by_cases q' : k' = k
      · rw [if_pos q', if_pos q', if_neg fun e => q (e.symm.trans q')]
      · rw [if_neg q', if_neg q']
set_option tactic.hygienic true in
theorem place_some {r c : Nat} {v : Val} {q : Key} (h : place r c v = some q) : v = valOf q ∧ ∃ i j : Nat, q = ((i : Int), (j : Int)) ∧ i < r ∧ j < c := by
  rcases pair_or v with ⟨x, y, rfl⟩ | ⟨_, hp⟩
  · cases x with
    | int i =>
      cases y with
      | int j =>
        have h : (if inR r c (i, j) = true then some (i, j) else none) = some q := h
        split at h
        · rename_i e; cases h; exact ⟨rfl, inR_nat e⟩
        · cases h
      | _ => cases h
    | _ => cases h
  · rw [hp] at h; cases h
section
variable {T : Tab} {Φ : Funs} {Γ : Env'} {H : Hp} {Q : Val → Hp → Prop} {E : Nat → Hp → Prop} {d : Nat} {QS : Env' → Hp → Prop} {R : Val → Hp → Prop} {ES : Nat → Env' → Hp → Prop} {o r c lg b ls N : Nat} {g : List (List Val)} {es : List (Key × Val)} {v h : Val} {P : Nat → Prop} {S : Key → Bool}
theorem m_look {ss : MSs} (L : LandAt H o r c lg b 1 ls g es) (k : Kn H v) (g0 : Γ[0]? = some (some (.loc o))) (g1 : Γ[1]? = some (some v))
    (yes : ∀ i j : Nat, v = valOf ((i : Int), (j : Int)) → place r c v = some ((i : Int), (j : Int)) → i < r → j < c → wpSs T_05 (callF T_05 (d + 3)) ss Γ H QS R ES) (no : place r c v = none → ES 3 Γ H) :
    wpSs T_05 (callF T_05 (d + 3)) (.cons (.expr (.umeth (.var 0) 1 (.cons (.var 1) .nil))) ss) Γ H QS R ES := by
  refine ex1 L.inst fun fs zz => aNd4 zz fun h0 h1 h2 _ => ?_
  rw [wps_cons, wps_expr, wp_umeth, wp_var, getV_of g0, wu_meth3 h0 (show T_05.meth 7 1 = some 22 from rfl), wp_cons, wp_var, getV_of g1, wp_nil, wp_call (g := f22_05) rfl rfl, f22_05]
  rw [wps_cons, wps_ite, wp_not]
  show Wp (attrV (.loc o) 0) H _ _
  rw [wa_attr3 h0 h1]
  show Wp (attrV (.loc o) 1) H _ _
  rw [wa_attr3 h0 h2]
  refine Wp.then (l05_liesK k) ?_
  rintro _ _ ⟨rfl, rfl⟩
  rw [asBool_bool, asBool_bool, brB_not]
  refine brB_cases (fun e => ?_) fun e => ⟨rfl, no (Option.not_isSome_iff_eq_none.mp (by rw [e]; exact Bool.false_ne_true))⟩
  obtain ⟨q, hq⟩ := Option.isSome_iff_exists.mp e
  refine aNd2 (place_some hq) fun ev zz => ex2 zz fun i j zz => aNd3 zz fun zr3 hi hj => ?_; subst zr3
  exact yes i j ev hq hi hj
noncomputable def Aft.got (A : Aft) (P : Nat → Prop) (H : Hp) (o r c N : Nat) (a : Out) (K : Hp) : Prop := A.out = a ∧ Keep P H K ∧ Ld P K o r c A.g A.S (N + 1)
theorem gat_of {i j : Nat} {w : List Val} {x : Val} (hw : g[i]? = some w) (hx : w[j]? = some x) : gat g ((i : Int), (j : Int)) = x := by
  show ((g[((i : Int)).toNat]?).bind (fun w => w[((j : Int)).toNat]?)).getD .none = x
  rw [Int.toNat_natCast, Int.toNat_natCast, hw]
  show (w[j]?).getD .none = x
  rw [hx]; rfl
theorem g_at (og : OkG g r c) {i j : Nat} (hi : i < r) (hj : j < c) : ∃ w x, g[i]? = some w ∧ w[j]? = some x ∧ HV x ∧ w.length = c := by
  obtain ⟨w, hw⟩ : ∃ w, g[i]? = some w := ⟨_, List.getElem?_eq_getElem (by rw [og.len]; exact hi)⟩
  obtain ⟨lw, hv⟩ := og.row i _ hw
  obtain ⟨x, hx⟩ : ∃ x, w[j]? = some x := ⟨_, List.getElem?_eq_getElem (by rw [lw]; exact hj)⟩
  exact ⟨w, x, hw, hx, hv x (List.mem_of_getElem? hx), lw⟩
theorem m_height (x : Ld P H o r c g S N) (og : OkG g r c) (k : Kn H v) : Wp (callF T_05 (d + 4) 23 [.loc o, v]) H (fun a => (act 4 (place r c v) h g S).got P H o r c N (.val a)) (fun e => (act 4 (place r c v) h g S).got P H o r c N (.exc e)) := by
  obtain @⟨lg, b, ls, es, L, po, pg, ps, pr, hS, len, nd⟩ := x
  rw [wp_call (g := f23_05) rfl rfl]
  refine m_look L k rfl rfl (fun i j ev hq hi hj => ?_) fun hq => ?_
  · rw [hq]
    refine ex2 (g_at og hi hj) fun w x zz => aNd4 zz fun hw hx _ _ => ?_
    refine ex1 L.inst fun fs zz => aNd5 zz fun h0 h1 h2 h3 h4 => ?_
    refine Eq.symm ev ▸ ?_
    show Wp (attrV (.loc o) 2) H _ _
    rw [wa_attr3 h0 h3]
    show Wp (subV (.loc lg) (.int (i : Int))) H _ _
    rw [ws_eq3 L.grid.top (L.grid.item (List.getElem?_eq_some_iff.mp hw).1)]
    show Wp (subV (.loc (b + 1 * i)) (.int (j : Int))) H _ _
    rw [ws_eq3 (L.grid.row i w hw) hx]
    exact ⟨congrArg Out.val (gat_of hw hx), Keep.refl _ _, L, po, pg, ps, pr, hS, Nat.le_succ_of_le len, nd⟩
  · rw [hq]
    exact ⟨rfl, Keep.refl _ _, L, po, pg, ps, pr, hS, Nat.le_succ_of_le len, nd⟩
theorem m_is (x : Ld P H o r c g S N) (k : Kn H v) : Wp (callF T_05 (d + 4) 24 [.loc o, v]) H (fun a => (act 3 (place r c v) h g S).got P H o r c N (.val a)) (fun e => (act 3 (place r c v) h g S).got P H o r c N (.exc e)) := by
  obtain @⟨lg, b, ls, es, L, po, pg, ps, pr, hS, len, nd⟩ := x
  rw [wp_call (g := f24_05) rfl rfl]
  refine m_look L k rfl rfl (fun i j ev hq hi hj => ?_) fun hq => ?_
  · rw [hq]
    refine ex1 L.inst fun fs zz => aNd5 zz fun h0 h1 h2 h3 h4 => ?_
    refine Eq.symm ev ▸ ?_
    show Wp (attrV (.loc o) 3) H _ _
    rw [wa_attr3 h0 h4]
    show getO (cmpV .isin (.tup [.int (i : Int), .int (j : Int)]) (.loc ls) H) _
    rw [in_dict L.sinks]
    exact ⟨congrArg (fun z => Out.val (.bool z)) (hS _).symm, Keep.refl _ _, L, po, pg, ps, pr, hS, Nat.le_succ_of_le len, nd⟩
  · rw [hq]
    exact ⟨rfl, Keep.refl _ _, L, po, pg, ps, pr, hS, Nat.le_succ_of_le len, nd⟩
theorem m_open (x : Ld P H o r c g S N) (og : OkG g r c) (k : Kn H v) (hN : N < 1000) : Wp (callF T_05 (d + 4) 26 [.loc o, v]) H (fun a => (act 1 (place r c v) h g S).got P H o r c N (.val a)) (fun e => (act 1 (place r c v) h g S).got P H o r c N (.exc e)) := by
  obtain @⟨lg, b, ls, es, L, po, pg, ps, pr, hS, len, nd⟩ := x
  rw [wp_call (g := f26_05) rfl rfl]
  refine m_look L k rfl rfl (fun i j ev hq hi hj => ?_) fun hq => ?_
  · rw [hq]
    refine ex2 (g_at og hi hj) fun w x zz => aNd4 zz fun hw hx hv _ => ?_
    refine ex1 L.inst fun fs zz => aNd5 zz fun h0 h1 h2 h3 h4 => ?_
    have ga := gat_of hw hx
    refine Eq.symm ev ▸ ?_
    show Wp (attrV (.loc o) 2) H _ _
    rw [wa_attr3 h0 h3]
    show Wp (subV (.loc lg) (.int (i : Int))) H _ _
    rw [ws_eq3 L.grid.top (L.grid.item (List.getElem?_eq_some_iff.mp hw).1)]
    show Wp (subV (.loc (b + 1 * i)) (.int (j : Int))) H _ _
    rw [ws_eq3 (L.grid.row i w hw) hx]
    rcases hv with rfl | ⟨n, rfl, _⟩
    · refine ⟨rfl, ?_⟩
      show (if isNo (gat g ((i : Int), (j : Int))) = true then (⟨.exc 4, g, S⟩ : Aft) else ⟨.val .none, g, sadd S ((i : Int), (j : Int))⟩).got P H o r c N (.exc 4) H
      rw [ga]
      exact ⟨rfl, Keep.refl _ _, L, po, pg, ps, pr, hS, Nat.le_succ_of_le len, nd⟩
    · skip
      show Wp (attrV (.loc o) 3) H _ _
      rw [wa_attr3 h0 h4]
      refine Wp.of_eq (a := ()) (H' := H.set ls (.dict (dput es ((i : Int), (j : Int)) (.bool true)))) ?_ ?_
      · unfold setitemV
        simp only [L.sinks]
        exact if_pos (show es.length < 16777216 by exact o248 hN len)
      · show (if isNo (gat g ((i : Int), (j : Int))) = true then (⟨.exc 4, g, S⟩ : Aft) else ⟨.val .none, g, sadd S ((i : Int), (j : Int))⟩).got P H o r c N (.val .none) _
        rw [ga]
        refine ⟨rfl, Keep.set ps _, L.sink, po, pg, ps, pr, fun k => ?_, Nat.le_trans (dput_len _ _ _) (Nat.succ_le_succ len), dput_uniq nd _ _⟩
        show inD (dput es ((i : Int), (j : Int)) (.bool true)) (valOf k) = (S k || decide (k = ((i : Int), (j : Int))))
        rw [Bool.eq_iff_iff, dput_in, Bool.or_eq_true, decide_eq_true_iff, hS]
  · rw [hq]
    exact ⟨rfl, Keep.refl _ _, L, po, pg, ps, pr, hS, Nat.le_succ_of_le len, nd⟩
theorem del_in {q k : Key} (nd : Uniq es) (hS : ∀ k, inD es (valOf k) = S k) : inD (ddel es q) (valOf k) = srem S q k := by
  show (dget (ddel es q) k).isSome = (S k && !decide (k = q))
  rw [dget_del nd, ← hS]
  by_cases e : k = q
  · rw [if_pos e, decide_eq_true e]; exact (Bool.and_false _).symm
  · rw [if_neg e, decide_eq_false e]; exact (Bool.and_true _).symm
theorem m_pop {i j : Nat} {fs : List (Nat × Val)} (h0 : H[o]? = some (.inst 7 fs)) (h4 : fs.lookup 3 = some (.loc ls)) (hs : H[ls]? = some (.dict es)) (hi : inD es (valOf ((i : Int), (j : Int))) = true) (g0 : Γ[0]? = some (some (.loc o))) (g1 : Γ[1]? = some (some (valOf ((i : Int), (j : Int)))))
    (q : QS Γ (H.set ls (.dict (ddel es ((i : Int), (j : Int)))))) : wpSs T_05 Φ (.cons (.expr (.bm (.attr (.var 0) 3) .dpop (.cons (.var 1) .nil))) .nil) Γ H QS R ES := by
  rw [wps_cons, wps_expr, wp_bm, wp_attr, wp_var, getV_of g0, wa_attr3 h0 h4, getO_of (show bmFits .dpop (.loc ls) H = some () by unfold bmFits; simp only [hs]), wp_cons, wp_var, getV_of g1, wp_nil]
  obtain ⟨x, hx⟩ := Option.isSome_iff_exists.mp (show (dget es ((i : Int), (j : Int))).isSome = true from hi)
  refine Wp.of_eq (a := x) (H' := H.set ls (.dict (ddel es ((i : Int), (j : Int))))) ?_ q
  unfold bmV
  simp only [hs]
  show (match dget es ((i : Int), (j : Int)) with | some v => Res.ok v (H.set ls (.dict (ddel es ((i : Int), (j : Int))))) | none => .bad) = _
  rw [hx]
theorem m_shut (x : Ld P H o r c g S N) (k : Kn H v) : Wp (callF T_05 (d + 4) 27 [.loc o, v]) H (fun a => (act 2 (place r c v) h g S).got P H o r c N (.val a)) (fun e => (act 2 (place r c v) h g S).got P H o r c N (.exc e)) := by
  obtain @⟨lg, b, ls, es, L, po, pg, ps, pr, hS, len, nd⟩ := x
  rw [wp_call (g := f27_05) rfl rfl]
  refine m_look L k rfl rfl (fun i j ev hq hi hj => ?_) fun hq => ?_
  · rw [hq]
    refine ex1 L.inst fun fs zz => aNd5 zz fun h0 h1 h2 h3 h4 => ?_
    refine Eq.symm ev ▸ ?_
    have hSq := hS ((i : Int), (j : Int))
    show Wp (attrV (.loc o) 3) H _ _
    rw [wa_attr3 h0 h4]
    show getO (cmpV .notin (.tup [.int (i : Int), .int (j : Int)]) (.loc ls) H) _
    rw [notin_dict L.sinks]
    show brB (!(inD es (valOf ((i : Int), (j : Int))))) _ _
    rw [brB_not]
    refine brB_cases (fun e => ?_) fun e => ⟨rfl, ?_⟩
    · refine m_pop h0 h4 L.sinks e rfl rfl ?_
      show (if S ((i : Int), (j : Int)) = true then (⟨.val .none, g, srem S ((i : Int), (j : Int))⟩ : Aft) else ⟨.exc 4, g, S⟩).got P H o r c N (.val .none) _
      rw [← hSq, if_pos e]
      exact ⟨rfl, Keep.set ps _, L.sink, po, pg, ps, pr, fun k => del_in nd hS, Nat.le_succ_of_le (Nat.le_trans (ddel_len _ _) len), ddel_uniq nd _⟩
    · show (if S ((i : Int), (j : Int)) = true then (⟨.val .none, g, srem S ((i : Int), (j : Int))⟩ : Aft) else ⟨.exc 4, g, S⟩).got P H o r c N (.exc 4) _
      rw [← hSq, if_neg (by rw [e]; exact Bool.false_ne_true)]
      exact ⟨rfl, Keep.refl _ _, L, po, pg, ps, pr, hS, Nat.le_succ_of_le len, nd⟩
  · rw [hq]
    exact ⟨rfl, Keep.refl _ _, L, po, pg, ps, pr, hS, Nat.le_succ_of_le len, nd⟩
end
end Mine.Pure
-- part L5T
namespace Mine.Pure
open PySem
theorem isH_HV {h : Val} (e : isH h = true) : HV h := by
  cases h with
  | none => exact .inl rfl
  | int i =>
    have e : (decide (0 ≤ i) && decide (i ≤ 1000000000)) = true := e
    rw [Bool.and_eq_true] at e
    exact .inr ⟨i, rfl, of_decide_eq_true e.1, of_decide_eq_true e.2⟩
  | _ => cases e
theorem is_none {H : Hp} (h : Val) : cmpV .is h .none H = some (isNo h) := by cases h <;> rfl
theorem gput_eq {g : List (List Val)} {i j : Nat} {w : List Val} {h : Val} (hw : g[i]? = some w) : gput g ((i : Int), (j : Int)) h = g.set i (w.set j h) := by
  unfold gput
  rw [Int.toNat_natCast, Int.toNat_natCast, hw]; rfl
theorem okg_put {g : List (List Val)} {r c i j : Nat} {w : List Val} {h : Val} (og : OkG g r c) (hw : g[i]? = some w) (hh : HV h) : OkG (g.set i (w.set j h)) r c := by
  refine ⟨by rw [List.length_set]; exact og.len, fun k z hz => ?_⟩
  rw [List.getElem?_set] at hz
  split at hz
  · split at hz
    · cases hz
      obtain ⟨lw, hv⟩ := og.row i w hw
      refine ⟨by rw [List.length_set]; exact lw, fun v hv' => ?_⟩
      rcases List.mem_or_eq_of_mem_set hv' with h' | h'
      · exact hv v h'
      · rw [h']; exact hh
    · cases hz
  · exact og.row k z hz
section
variable {T : Tab} {Φ : Funs} {Γ : Env'} {H : Hp} {Q : Val → Hp → Prop} {E : Nat → Hp → Prop} {d : Nat} {QS : Env' → Hp → Prop} {R : Val → Hp → Prop} {ES : Nat → Env' → Hp → Prop} {o r c lg b ls N l s : Nat} {g : List (List Val)} {es : List (Key × Val)} {v h : Val} {P : Nat → Prop} {S : Key → Bool}
theorem row_ne (hS : OkS r c) (og : OkG g r c) (G : GAt H l b s g) {i : Nat} (hi : i < r) : b + s * i ≠ l := fun e => by
  unfold OkS at hS
  refine ex2 (g_at og hi (show 0 < c by exact o249 hS)) fun w x zz => aNd4 zz fun hw hx hv _ => ?_
  have h1 := G.row i w hw
  rw [e, G.top] at h1
  have h1 := Option.some.inj h1
  have h1 : (List.range g.length).map (fun i => Val.loc (b + s * i)) = w := by injection h1
  rw [← h1, List.getElem?_map] at hx
  cases q : (List.range g.length)[0]? with
  | none => rw [q] at hx; cases hx
  | some n =>
    rw [q] at hx
    cases hx
    rcases hv with hv | ⟨_, hv, _⟩ <;> cases hv
theorem GAt.put (G : GAt H l b s g) (hs : 1 ≤ s) {a : Nat} (hl : b + s * a ≠ l) (ha : a < g.length) (w : List Val) : GAt (H.set (b + s * a) (.list w)) l b s (g.set a w) := by
  refine ⟨?_, fun i r h => ?_⟩
  · rw [List.length_set]
    exact get_other _ hl G.top
  · by_cases c : i = a
    · subst c
      rw [List.getElem?_set_self ha] at h
      cases h
      exact get_set _ (G.row i _ (List.getElem?_eq_getElem ha))
    · rw [List.getElem?_set_ne (fun e => c e.symm)] at h
      refine get_other _ (fun e => c ?_) (G.row i r h)
      have e : s * a = s * i := by exact o250 e
      exact (Nat.eq_of_mul_eq_mul_left (by exact o251 hs) e).symm
theorem LandAt.put (L : LandAt H o r c lg b 1 ls g es) (hS : OkS r c) (og : OkG g r c) {i : Nat} (hi : i < r) {w' : List Val} : LandAt (H.set (b + 1 * i) (.list w')) o r c lg b 1 ls (g.set i w') es := by
  refine ex1 L.inst fun fs zz => aNd2 zz fun h0 hf => ?_
  have hr := L.grid.row i _ (List.getElem?_eq_getElem (by rw [og.len]; exact hi))
  have hs := L.sinks
  exact ⟨⟨fs, get_other _ (fun e => by rw [e, h0] at hr; cases hr) h0, hf⟩, L.grid.put (Nat.le_refl 1) (row_ne hS og L.grid hi) (by rw [og.len]; exact hi) w', get_other _ (fun e => by rw [e, hs] at hr; cases hr) hs⟩
theorem l05_heightK (k : Flat h) : Wp (callF T_05 (d + 2) 3 [h]) H Q E = Q (.bool (isH h)) H := by
  rw [wp_call (g := f3_05) rfl rfl, f3_05]
  cases h with
  | none => rfl
  | int i => exact l05_wholeK (d := d) (E := E) (lo := 0) (hi := 1000000000) (x := .int i) trivial
  | bool b => exact l05_wholeK (d := d) (E := E) (lo := 0) (hi := 1000000000) (x := .bool b) trivial
  | str s => exact l05_wholeK (d := d) (E := E) (lo := 0) (hi := 1000000000) (x := .str s) trivial
  | tup s => exact l05_wholeK (d := d) (E := E) (lo := 0) (hi := 1000000000) (x := .tup s) trivial
  | _ => cases k
theorem m_raise (x : Ld P H o r c g S N) (hs : OkS r c) (og : OkG g r c) (k : Kn H v) (kh : Flat h) : Wp (callF T_05 (d + 4) 25 [.loc o, v, h]) H (fun a => (act 0 (place r c v) h g S).got P H o r c N (.val a)) (fun e => (act 0 (place r c v) h g S).got P H o r c N (.exc e)) := by
  obtain @⟨lg, b, ls, es, L, po, pg, ps, pr, hS, len, nd⟩ := x
  rw [wp_call (g := f25_05) rfl rfl]
  refine m_look L k rfl rfl (fun i j ev hq hi hj => ?_) fun hq => ?_
  · rw [hq]
    obtain ⟨w, x, hw, hx, _, lw⟩ := g_at og hi hj
    refine Eq.symm ev ▸ ?_
    have hSq := hS ((i : Int), (j : Int))
    rw [wps_cons, wps_ite, wp_not]
    show Wp (callF T_05 (d + 3) 3 [h]) H _ _
    rw [l05_heightK kh, asBool_bool, asBool_bool, brB_not]
    show brB (isH h) _ _
    refine brB_cases (fun e => ?_) fun e => ⟨rfl, ?_⟩
    · have rr := L.grid.row i w hw
      have tp := L.grid.top
      have it := L.grid.item (List.getElem?_eq_some_iff.mp hw).1
      have L1 := L.put hs og hi (w' := w.set j h)
      obtain ⟨fs, h0, _, _, h3, _⟩ := L.inst
      show Wp (attrV (.loc o) 2) H _ _
      rw [wa_attr3 h0 h3]
      show Wp (subV (.loc lg) (.int (i : Int))) H _ _
      rw [ws_eq3 tp it]
      show Wp (setitemV (.loc (b + 1 * i)) (.int (j : Int)) h) H _ _
      rw [wa_setitem3 rr (by exact o156) (by skip; exact o252 hj lw), Int.toNat_natCast]
      clear rr tp it L
      obtain ⟨fs, h0, _, _, _, h4⟩ := L1.inst
      have K1 : Keep P H (H.set (b + 1 * i) (.list (w.set j h))) := Keep.set (pr i hi) _
      generalize H.set (b + 1 * i) (.list (w.set j h)) = J at *
      rw [wps_cons, wps_ite, wp_and, wp_cmp, wp_var, getV_of (v := h) rfl, wp_none, is_none]
      have fin : ∀ (K : Hp) (z : Bool) (es' : List (Key × Val)), (isNo h && S ((i : Int), (j : Int))) = z → Keep P H K → LandAt K o r c lg b 1 ls (g.set i (w.set j h)) es' → (∀ k, inD es' (valOf k) = (if z = true then srem S ((i : Int), (j : Int)) else S) k) → es'.length ≤ N → Uniq es' → (act 0 (some ((i : Int), (j : Int))) h g S).got P H o r c N (.val .none) K := fun K z es' ez kK LK hs' le un => by
        show (if isH h = true then (⟨.val .none, gput g ((i : Int), (j : Int)) h, if (isNo h && S ((i : Int), (j : Int))) = true then srem S ((i : Int), (j : Int)) else S⟩ : Aft) else ⟨.exc 2, g, S⟩).got P H o r c N (.val .none) K
        rw [if_pos e, gput_eq hw, ez]
        exact ⟨rfl, kK, LK, po, pg, ps, pr, hs', Nat.le_succ_of_le le, un⟩
      cases hno : isNo h with
      | false => exact fin J false es (by rw [hno]; rfl) K1 L1 hS len nd
      | true =>
        show Wp (attrV (.loc o) 3) J _ _
        rw [wa_attr3 h0 h4]
        show getO (cmpV .isin (.tup [.int (i : Int), .int (j : Int)]) (.loc ls) J) _
        rw [in_dict L1.sinks]
        refine brB_cases (fun e' => ?_) fun e' => fin J false es (by rw [hno, ← hSq]; exact e') K1 L1 hS len nd
        exact m_pop h0 h4 L1.sinks e' rfl rfl (fin _ true (ddel es ((i : Int), (j : Int))) (by rw [hno, ← hSq]; exact e') (K1.trans (Keep.set ps _)) L1.sink (fun k => del_in nd hS) (Nat.le_trans (ddel_len _ _) len) (ddel_uniq nd _))
    · show (if isH h = true then (⟨.val .none, gput g ((i : Int), (j : Int)) h, if (isNo h && S ((i : Int), (j : Int))) = true then srem S ((i : Int), (j : Int)) else S⟩ : Aft) else ⟨.exc 2, g, S⟩).got P H o r c N (.exc 2) H
      rw [if_neg (by rw [e]; exact Bool.false_ne_true)]
      exact ⟨rfl, Keep.refl _ _, L, po, pg, ps, pr, hS, Nat.le_succ_of_le len, nd⟩
  · rw [hq]
    exact ⟨rfl, Keep.refl _ _, L, po, pg, ps, pr, hS, Nat.le_succ_of_le len, nd⟩
theorem l05_word2 : callF T_05 (d + 1) 14 [.exc 2] H = .ok (.str "height") H := by kernel_rfl
theorem l05_word3 : callF T_05 (d + 1) 14 [.exc 3] H = .ok (.str "cell") H := by kernel_rfl
theorem l05_word4 : callF T_05 (d + 1) 14 [.exc 4] H = .ok (.str "drain") H := by kernel_rfl
theorem ite_el {c : Prop} [Decidable c] {a b : Aft} {C : Aft → Prop} (ha : c → C a) (hb : C b) : C (if c then a else b) := by
  by_cases h : c
  · rw [if_pos h]; exact ha h
  · rw [if_neg h]; exact hb
theorem act_el {k : Nat} {p : Option Key} {C : Aft → Prop} (h3 : C ⟨.exc 3, g, S⟩) (h2 : C ⟨.exc 2, g, S⟩) (h4 : C ⟨.exc 4, g, S⟩) (k0 : ∀ q S', p = some q → isH h = true → C ⟨.val .none, gput g q h, S'⟩) (kn : ∀ S', C ⟨.val .none, g, S'⟩) (kb : ∀ b, C ⟨.val (.bool b), g, S⟩) (kg : ∀ q, p = some q → C ⟨.val (gat g q), g, S⟩) : C (act k p h g S) := by
  cases p with
  | none => exact h3
  | some q =>
    match k with
    | 0 => exact ite_el (k0 q _ rfl) h2
    | 1 => exact ite_el (fun _ => h4) (kn _)
    | 2 => exact ite_el (fun _ => kn _) h4
    | 3 => exact kb _
    | _ + 4 => exact kg q rfl
theorem act_exc {k : Nat} {p : Option Key} {e : Nat} : (act k p h g S).out = .exc e → e = 2 ∨ e = 3 ∨ e = 4 :=
  act_el (C := fun A => A.out = .exc e → e = 2 ∨ e = 3 ∨ e = 4) (fun x => by cases x; exact .inr (.inl rfl)) (fun x => by cases x; exact .inl rfl) (fun x => by cases x; exact .inr (.inr rfl)) (fun _ _ _ _ => nofun) (fun _ => nofun) (fun _ => nofun) fun _ _ => nofun
theorem said_exc {e : Nat} {K : Hp} {a0 a1 a2 a3 : Option Val} {RR : Val → Hp → Prop} {QS' : Env' → Hp → Prop} {ES' : Nat → Env' → Hp → Prop} (he : e = 2 ∨ e = 3 ∨ e = 4) (rr : RR (told (.exc e)) K) : WpS (execH T_05 (callF T_05 (d + 4)) (.cons 0 (some 4) (.cons (.ret (.some (.call 14 (.cons (.var 4) .nil)))) .nil) .nil) e [a0, a1, a2, a3, none] K) QS' RR ES' :=
  by
  rcases he with rfl | rfl | rfl
  · refine wps_hit rfl rfl ?_
    rw [wps_cons, wps_ret, wp_oSome, wp_callE, wp_cons, wp_var, getV_of (v := .exc 2) rfl, wp_nil]
    exact Wp.of_eq l05_word2 rr
  · refine wps_hit rfl rfl ?_
    rw [wps_cons, wps_ret, wp_oSome, wp_callE, wp_cons, wp_var, getV_of (v := .exc 3) rfl, wp_nil]
    exact Wp.of_eq l05_word3 rr
  · refine wps_hit rfl rfl ?_
    rw [wps_cons, wps_ret, wp_oSome, wp_callE, wp_cons, wp_var, getV_of (v := .exc 4) rfl, wp_nil]
    exact Wp.of_eq l05_word4 rr
theorem said_fin {m mth : Nat} {A : Aft} {fs : List (Nat × Val)} {as : List Val} {es : MEs} {a0 a1 a2 a3 : Option Val} {QS' : Env' → Hp → Prop} {ES' : Nat → Env' → Hp → Prop} {ES0 E0 : Nat → Hp → Prop} (f0 : H[o]? = some (.inst 7 fs)) (hm : T_05.meth 7 m = some mth) (ha : ∀ e, A.out = .exc e → e = 2 ∨ e = 3 ∨ e = 4)
    (w : Wp (callF T_05 (d + 4) mth (.loc o :: as)) H (fun a => A.got P H o r c N (.val a)) (fun e => A.got P H o r c N (.exc e)))
    (hes : ∀ Q E, Q as H → wpEs T_05 (callF T_05 (d + 4)) es [a0, a1, a2, a3, none] H Q E) :
    Wp (umethOf T_05 (.loc o) m) H (fun k J => wpEs T_05 (callF T_05 (d + 4)) es [a0, a1, a2, a3, none] J (fun vs K => Wp (callF T_05 (d + 4) k (.loc o :: vs)) K (fun a K => a = told A.out ∧ Keep P H K ∧ Ld P K o r c A.g A.S (N + 1)) fun c' K' => WpS (execH T_05 (callF T_05 (d + 4)) (.cons 0 (some 4) (.cons (.ret (.some (.call 14 (.cons (.var 4) .nil)))) .nil) .nil) c' [a0, a1, a2, a3, none] K') QS' (fun a K => a = told A.out ∧ Keep P H K ∧ Ld P K o r c A.g A.S (N + 1)) ES') ES0) E0 := by
  rw [wu_meth3 f0 hm]
  exact hes _ _ (w.mono (fun a K q => ⟨by rw [q.1]; rfl, q.2⟩) fun e K q => said_exc (ha e q.1) ⟨by rw [q.1], q.2⟩)
theorem l05_said {k : Nat} (hk : k < 5) (x : Ld P H o r c g S N) (hs : OkS r c) (og : OkG g r c) (kn : Kn H v) (kh : Flat h) (hN : N < 1000) :
    Wp (callF T_05 (d + 5) 15 [.loc o, .int (k : Int), v, h]) H (fun a K => a = told (act k (place r c v) h g S).out ∧ Keep P H K ∧ Ld P K o r c (act k (place r c v) h g S).g (act k (place r c v) h g S).S (N + 1)) NoE := by
  have f0 : ∃ fs, H[o]? = some (.inst 7 fs) := by
    obtain ⟨L, _⟩ := x
    refine ex1 L.inst fun fs zz => aNd2 zz fun f0 _ => ?_
    exact ⟨fs, f0⟩
  refine f0.elim fun fs f0 => ?_
  rw [wp_call (g := f15_05) rfl rfl]
  show wpSs _ _ _ [some (.loc o), some (.int (k : Int)), some v, some h, none] H _ _ _
  refine wps_try ?_
  revert hk
  generalize k = k'
  revert k'
  refine five ?_ ?_ ?_ ?_ ?_
  · exact said_fin f0 (show T_05.meth 7 4 = some 25 from rfl) (fun e => act_exc) (m_raise (d := d) x hs og kn kh) fun Q E q => q
  · exact said_fin f0 (show T_05.meth 7 5 = some 26 from rfl) (fun e => act_exc) (m_open (d := d) x og kn hN) fun Q E q => q
  · exact said_fin f0 (show T_05.meth 7 6 = some 27 from rfl) (fun e => act_exc) (m_shut (d := d) x kn) fun Q E q => q
  · exact said_fin f0 (show T_05.meth 7 3 = some 24 from rfl) (fun e => act_exc) (m_is (d := d) x kn) fun Q E q => q
  · exact said_fin f0 (show T_05.meth 7 2 = some 23 from rfl) (fun e => act_exc) (m_height (d := d) x og kn) fun Q E q => q
end
end Mine.Pure
-- part L5U
namespace Mine.Pure
open PySem
noncomputable def isI : Val → Bool
  | .int _ => true
  | _ => false
inductive Rw (P : Nat → Prop) (H : Hp) (lr ld r c : Nat) (g : List (List Val)) (ks : List Key) : Prop
  | mk {b s : Nat} (G : GAt H lr b s g) (hs : 1 ≤ s) (pl : P lr) (pr : ∀ i, i < r → P (b + s * i)) (at_ : H[ld]? = some (.list (ks.map valOf))) (pd : P ld) (nd : ks.Nodup) (inr : ∀ k ∈ ks, inR r c k = true) : Rw P H lr ld r c g ks
theorem Rw.keep {P Q : Nat → Prop} {H H' : Hp} {lr ld r c : Nat} {g : List (List Val)} {ks : List Key} (x : Rw P H lr ld r c g ks) (og : OkG g r c) (dis : ∀ m, P m → ¬ Q m) (k : Keep Q H H') : Rw P H' lr ld r c g ks := by
  obtain ⟨G, hs, pl, pr, at_, pd, nd, inr⟩ := x
  exact ⟨⟨k.get _ _ (dis _ pl) G.top, fun i w hw => k.get _ _ (dis _ (pr i (by rw [← og.len]; exact (List.getElem?_eq_some_iff.mp hw).1))) (G.row i w hw)⟩, hs, pl, pr, k.get _ _ (dis _ pd) at_, pd, nd, inr⟩
theorem dats_keys {H : Hp} : ∀ ks : List Key, dats (dataOf H deep) (ks.map valOf) = some (ks.map fun k => .tuple [.int k.1, .int k.2])
  | [] => rfl
  | k :: ks => by
    show (match dataOf H deep (valOf k), dats (dataOf H deep) (ks.map valOf) with | some d, some ds => some (d :: ds) | _, _ => none) = _
    rw [dats_keys ks]; rfl
theorem eqv_keys (a b : Key) : PyData.eqv (.tuple [.int a.1, .int a.2]) (.tuple [.int b.1, .int b.2]) = decide (a = b) := by
  obtain ⟨a1, a2⟩ := a
  obtain ⟨b1, b2⟩ := b
  show (a1 == b1 && (a2 == b2 && true)) = _
  rw [Bool.and_true, Bool.eq_iff_iff, Bool.and_eq_true, beq_iff_eq, beq_iff_eq, decide_eq_true_iff, Prod.mk.injEq]
theorem any_keys (ks : List Key) (q : Key) : ((ks.map fun k => PyData.tuple [.int k.1, .int k.2]).any fun y => PyData.eqv y (.tuple [.int q.1, .int q.2])) = decide (q ∈ ks) := by
  rw [List.any_map, Bool.eq_iff_iff, List.any_eq_true, decide_eq_true_iff]
  constructor
  · rintro ⟨k, hk, e⟩
    have e : decide (k = q) = true := (eqv_keys k q).symm.trans e
    rw [← of_decide_eq_true e]; exact hk
  · intro h
    exact ⟨q, h, (eqv_keys q q).trans (decide_eq_true rfl)⟩
theorem in_list {H : Hp} {l : Nat} {ks : List Key} (h : H[l]? = some (.list (ks.map valOf))) (q : Key) : cmpV .isin (valOf q) (.loc l) H = some (decide (q ∈ ks)) ∧ cmpV .notin (valOf q) (.loc l) H = some (!decide (q ∈ ks)) := by
  have e : inV (valOf q) (.loc l) H = some (decide (q ∈ ks)) := by
    unfold inV
    simp only [h]
    show (match dataOf H deep (valOf q), dats (dataOf H deep) (ks.map valOf) with | some d, some ds => some (ds.any fun y => PyData.eqv y d) | _, _ => none) = _
    rw [dats_keys]
    show some _ = _
    rw [← any_keys]
  refine ⟨e, ?_⟩
  show flip true (inV (valOf q) (.loc l) H) = _
  rw [e]; rfl
theorem find_keys (ks : List Key) (q : Key) (h : q ∈ ks) : ∃ j, (ks.map fun k => PyData.tuple [.int k.1, .int k.2]).findIdx? (fun y => PyData.eqv y (.tuple [.int q.1, .int q.2])) = some j ∧ (ks.map valOf).eraseIdx j = (ks.erase q).map valOf := by
  induction ks with
  | nil => cases h
  | cons k ks ih =>
    rw [List.map_cons, List.findIdx?_cons]
    by_cases e : k = q
    · refine ⟨0, by rw [eqv_keys, decide_eq_true e]; rfl, ?_⟩
      rw [e, List.erase_cons_head]; rfl
    · have h' : q ∈ ks := by
        cases h with
        | head => exact absurd rfl e
        | tail _ h => exact h
      refine ex1 (ih h') fun j zz => aNd2 zz fun h1 h2 => ?_
      refine ⟨j + 1, by rw [eqv_keys, decide_eq_false e, h1]; rfl, ?_⟩
      rw [List.erase_cons_tail (by simpa using e)]
      show valOf k :: (ks.map valOf).eraseIdx j = _
      rw [h2]; rfl
section
variable {T : Tab} {Φ : Funs} {Γ : Env'} {H : Hp} {Q : Val → Hp → Prop} {E : Nat → Hp → Prop} {d : Nat} {QS : Env' → Hp → Prop} {R : Val → Hp → Prop} {ES : Nat → Env' → Hp → Prop} {lr ld r c b l s : Nat} {g : List (List Val)} {v h : Val} {P : Nat → Prop} {ks : List Key}
theorem wm_remove {q : Key} (hl : H[l]? = some (.list (ks.map valOf))) (hq : q ∈ ks) (k : Q .none (H.set l (.list ((ks.erase q).map valOf)))) : Wp (bmV .remove (.loc l) [valOf q]) H Q E := by
  refine ex1 (find_keys ks q hq) fun j zz => aNd2 zz fun h1 h2 => ?_
  rw [← h2] at k
  refine Wp.of_eq ?_ k
  unfold bmV
  simp only [hl]
  have e : removeAt H (valOf q) (ks.map valOf) = some j := by
    show (match dataOf H deep (valOf q), dats (dataOf H deep) (ks.map valOf) with | some d, some ds => ds.findIdx? (fun y => PyData.eqv y d) | _, _ => none) = _
    rw [dats_keys]
    exact h1
  rw [e]
theorem l05_intK {x : Val} (k : Flat x) : Wp (callF T_05 (d + 1) 6 [x]) H Q E = Q (.bool (isI x)) H := by
  cases x with
  | _ => first | rfl | cases k
theorem place_isI (r c : Nat) {x y : Val} (h : (isI x && isI y) = false) : place r c (.tup [x, y]) = none := by
  cases x with
  | int i =>
    cases y with
    | int j => cases h
    | _ => rfl
  | _ => rfl
theorem two_p {x y : Val} {i : Nat} (hi : Γ[i]? = some (some (.tup [x, y]))) {e : ME} :
    wpE T Φ (.or (.not (.isinst (.var i) .tuple)) (.or (.cmp .ne (.bf .len (.cons (.var i) .nil)) (.int 2)) e)) Γ H Q E = wpE T Φ e Γ H Q E := by
  rw [wp_or, wp_not, wp_isinst, wp_var, getV_of hi, wi_tup_tup, asBool_bool, asBool_bool, brB_not, brB_true, wp_or, wp_cmp, wp_bf, wp_cons, wp_var, getV_of hi]
  rfl
theorem l05_isCell (hS : OkS r c) (og : OkG g r c) (G : GAt H lr b s g) (k : Kn H v) : Wp (callF T_05 (d + 2) 16 [v, .loc lr]) H (fun w K => w = .bool (place r c v).isSome ∧ K = H) NoE := by
  rw [wp_call (g := f16_05) rfl rfl, f16_05]
  show wpSs _ _ _ [some v, some (.loc lr)] H _ _ _
  rcases pair_or v with ⟨x, y, rfl⟩ | ⟨np, hp⟩
  · have kx := k x (.head _)
    have ky := k y (.tail _ (.head _))
    rw [wps_cons, wps_ite]
    rw [two_p (x := x) (y := y) rfl, wp_or, wp_not]
    show Wp (callF T_05 (d + 1) 6 [x]) H _ _
    rw [l05_intK kx, asBool_bool, asBool_bool, brB_not]
    refine brB_cases (fun e => ?_) fun e => ?_
    · rw [wp_not]
      show Wp (callF T_05 (d + 1) 6 [y]) H _ _
      rw [l05_intK ky, asBool_bool, asBool_bool, brB_not]
      refine brB_cases (fun e' => ?_) fun e' => ?_
      · cases x with
        | int i =>
          cases y with
          | int j =>
            have no : ¬ (0 ≤ i ∧ i < r ∧ 0 ≤ j ∧ j < c) → place r c (.tup [.int i, .int j]) = none := fun n => if_neg fun h => n (of_decide_eq_true h)
            refine brB_split (fun a1 => ?_) fun a1 => ⟨by rw [no (by exact o253 a1)]; rfl, rfl⟩
            show Wp (bfV .len [.loc lr]) H _ _
            rw [wv_len_loc G.top, len_rows og (l := 0)]
            refine brB_split (fun a2 => ?_) fun a2 => ⟨by rw [no (by exact o254 a2)]; rfl, rfl⟩
            refine brB_split (fun a3 => ?_) fun a3 => ⟨by rw [no (by exact o255 a3)]; rfl, rfl⟩
            show Wp (subV (.loc lr) (.int 0)) H (fun v H' => Wp (bfV .len [v]) H' _ _) _
            rw [wv_list0 hS og G]
            show Val.bool (decide (j < (c : Int))) = .bool (if inR r c (i, j) = true then some (i, j) else none).isSome ∧ _
            refine ⟨congrArg Val.bool ?_, rfl⟩
            by_cases a4 : j < (c : Int)
            · rw [decide_eq_true a4, if_pos (show inR r c (i, j) = true from decide_eq_true (show 0 ≤ i ∧ i < r ∧ 0 ≤ j ∧ j < c from ⟨a1, a2, a3, a4⟩))]; rfl
            · rw [decide_eq_false a4, if_neg (fun h => a4 (of_decide_eq_true h).2.2.2 : ¬ inR r c (i, j) = true)]; rfl
          | _ => cases e'
        | _ => cases e
      · rw [place_isI r c (by rw [e, e']; rfl)]; exact ⟨rfl, rfl⟩
    · rw [place_isI r c (by rw [e]; rfl)]; exact ⟨rfl, rfl⟩
  · rw [hp, wps_cons, wps_ite]
    exact (two_q k np rfl ⟨rfl, rfl⟩).1
end
end Mine.Pure
-- part L5V
namespace Mine.Pure
open PySem
noncomputable def memS (ks : List Key) : Key → Bool := fun k => decide (k ∈ ks)
set_option tactic.hygienic true in
theorem mem_add {ks : List Key} {q : Key} (k : Key) : memS (if q ∈ ks then ks else ks ++ [q]) k = sadd (memS ks) q k := by
  show decide _ = (decide (k ∈ ks) || decide (k = q))
  rw [Bool.eq_iff_iff, Bool.or_eq_true, decide_eq_true_iff, decide_eq_true_iff, decide_eq_true_iff]
  split
  · rename_i h; exact ⟨.inl, fun z => z.elim id fun e => e ▸ h⟩
  · rw [List.mem_append, List.mem_singleton]
theorem mem_rem {ks : List Key} (nd : ks.Nodup) {q : Key} (k : Key) : memS (ks.erase q) k = srem (memS ks) q k := by
  show decide _ = (decide (k ∈ ks) && !decide (k = q))
  rw [Bool.eq_iff_iff, decide_eq_true_iff, nd.mem_erase_iff, Bool.and_eq_true, decide_eq_true_iff, Bool.not_eq_true', decide_eq_false_iff_not]
  exact ⟨fun h => ⟨h.2, h.1⟩, fun h => ⟨h.2, h.1⟩⟩
theorem isNot_none {H : Hp} (h : Val) : cmpV .isNot h .none H = some (!isNo h) := by cases h <;> rfl
section
variable {T : Tab} {Φ : Funs} {Γ : Env'} {H : Hp} {Q : Val → Hp → Prop} {E : Nat → Hp → Prop} {d : Nat} {QS : Env' → Hp → Prop} {R : Val → Hp → Prop} {ES : Nat → Env' → Hp → Prop} {lr ld r c b l s : Nat} {g : List (List Val)} {v h : Val} {P : Nat → Prop} {ks : List Key}
noncomputable def Aft.gave (A : Aft) (P : Nat → Prop) (H : Hp) (lr ld r c : Nat) (a : Val) (K : Hp) : Prop := a = told A.out ∧ Keep P H K ∧ ∃ ks', Rw P K lr ld r c A.g ks' ∧ ∀ k, memS ks' k = A.S k
theorem du_height (k : Flat h) (h4 : Γ[4]? = some (some h)) : wpE T_05 (callF T_05 (d + 1)) (.and (.cmp .isNot (.var 4) .none) (.or (.not (.call 6 (.cons (.var 4) .nil))) (.not (.cmp2 .le .le (.int 0) (.var 4) (.int 1000000000))))) Γ H (fun a K => a = .bool (!isH h) ∧ K = H) NoE := by
  rw [wp_and, wp_cmp, wp_var, getV_of h4, wp_none, isNot_none, getO_some, asBool_bool, brB_not]
  refine brB_cases (fun e => ⟨?_, rfl⟩) fun e => ?_
  · cases h <;> first | rfl | cases e
  rw [wp_or, wp_not, wp_callE, wp_cons, wp_var, getV_of h4, wp_nil, l05_intK k, asBool_bool, asBool_bool, brB_not]
  refine brB_cases (fun ei => ?_) fun ei => ⟨?_, rfl⟩
  · cases h with
    | int i =>
      rw [wp_not, wp_cmp2, wp_int, wp_var, getV_of h4]
      refine brB_cases (fun e => ⟨?_, rfl⟩) fun e => ⟨?_, rfl⟩
      · show Val.bool (!decide (i ≤ 1000000000)) = .bool (!(decide (0 ≤ i) && decide (i ≤ 1000000000)))
        rw [e]; rfl
      · show Val.bool (!false) = .bool (!(decide (0 ≤ i) && decide (i ≤ 1000000000)))
        rw [e]; rfl
    | _ => cases ei
  · cases h <;> first | rfl | (cases ei; done) | (cases e; done)
theorem bm_rem {q : Key} {ss : MSs} (h1 : Γ[1]? = some (some (.loc l))) (h3 : Γ[3]? = some (some (valOf q))) (hl : H[l]? = some (.list (ks.map valOf))) (hq : q ∈ ks) (k : wpSs T Φ ss Γ (H.set l (.list ((ks.erase q).map valOf))) QS R ES) : wpSs T Φ (.cons (.expr (.bm (.var 1) .remove (.cons (.var 3) .nil))) ss) Γ H QS R ES := by
  rw [wps_cons, wps_expr, wp_bm, wp_var, getV_of h1, getO_of (show bmFits .remove (.loc l) H = some () by unfold bmFits; simp only [hl]), wp_cons, wp_var, getV_of h3, wp_nil]
  exact wm_remove hl hq k
theorem Rw.ld_ne (x : Rw P H lr ld r c g ks) (og : OkG g r c) (hS : OkS r c) (zs : List Val) : ∃ b s, GAt H lr b s g ∧ 1 ≤ s ∧ GAt (H.set ld (.list zs)) lr b s g ∧ P lr ∧ (∀ i, i < r → P (b + s * i) ∧ b + s * i ≠ ld) := by
  obtain @⟨b, s, G, hs, pl, pr, at_, pd, nd, inr⟩ := x
  unfold OkS at hS
  have n1 : ld ≠ lr := fun e => by
    have t := G.top
    rw [← e, at_] at t
    have t : ks.map valOf = (List.range g.length).map fun i => Val.loc (b + s * i) := by injection Option.some.inj t
    have t := congrArg (fun z => z[0]?) t
    rw [List.getElem?_map, List.getElem?_map, List.getElem?_range (by rw [og.len]; exact o192 hS)] at t
    cases k0 : ks[0]? with
    | none => rw [k0] at t; cases t
    | some k => rw [k0] at t; cases t
  have n2 : ∀ i, i < r → ld ≠ b + s * i := fun i hi e => by
    refine ex2 (g_at og hi (show 0 < c by exact o249 hS)) fun w y zz => aNd4 zz fun hw hy hv _ => ?_
    have t := G.row i w hw
    rw [← e, at_] at t
    have t : ks.map valOf = w := by injection Option.some.inj t
    rw [← t, List.getElem?_map] at hy
    cases k0 : ks[0]? with
    | none => rw [k0] at hy; cases hy
    | some k =>
      rw [k0] at hy; cases hy
      rcases hv with hv | ⟨_, hv, _⟩ <;> cases hv
  exact ⟨b, s, G, hs, G.other _ n1 fun i hi => n2 i (by rw [← og.len]; exact hi), pl, fun i hi => ⟨pr i hi, fun e => n2 i hi e.symm⟩⟩
theorem Rw.rem {q : Key} (x : Rw P H lr ld r c g ks) (og : OkG g r c) (hS : OkS r c) : Rw P (H.set ld (.list ((ks.erase q).map valOf))) lr ld r c g (ks.erase q) := by
  refine ex2 (x.ld_ne og hS ((ks.erase q).map valOf)) fun b s zz => aNd5 zz fun G hs G' pl pr => ?_
  obtain ⟨_, _, _, _, at_, pd, nd, inr⟩ := x
  exact ⟨G', hs, pl, fun i hi => (pr i hi).1, get_set _ at_, pd, nd.erase q, fun k hk => inr k (List.mem_of_mem_erase hk)⟩
theorem Rw.add {q : Key} (x : Rw P H lr ld r c g ks) (og : OkG g r c) (hS : OkS r c) (hq : inR r c q = true) (nq : ¬ q ∈ ks) : Rw P (H.set ld (.list ((ks ++ [q]).map valOf))) lr ld r c g (ks ++ [q]) := by
  refine ex2 (x.ld_ne og hS ((ks ++ [q]).map valOf)) fun b s zz => aNd5 zz fun G hs G' pl pr => ?_
  obtain ⟨_, _, _, _, at_, pd, nd, inr⟩ := x
  refine ⟨G', hs, pl, fun i hi => (pr i hi).1, get_set _ at_, pd, ?_, fun k hk => ?_⟩
  · rw [List.nodup_append]
    refine ⟨nd, List.nodup_cons.mpr ⟨List.not_mem_nil, .nil⟩, fun a ha b hb e => ?_⟩
    cases List.mem_singleton.mp hb
    exact nq (e ▸ ha)
  · rcases List.mem_append.mp hk with h | h
    · exact inr k h
    · rw [List.mem_singleton.mp h]; exact hq
theorem Rw.put {i : Nat} {w' : List Val} (x : Rw P H lr ld r c g ks) (og : OkG g r c) (hS : OkS r c) (hi : i < r) : ∃ b s, GAt H lr b s g ∧ P (b + s * i) ∧ Rw P (H.set (b + s * i) (.list w')) lr ld r c (g.set i w') ks := by
  refine ex2 (x.ld_ne og hS []) fun b s zz => aNd5 zz fun G hs G' pl pr => ?_
  obtain ⟨_, _, _, _, at_, pd, nd, inr⟩ := x
  exact ⟨b, s, G, (pr i hi).1, G.put hs (row_ne hS og G hi) (by rw [og.len]; exact hi) w', hs, pl, fun i hi => (pr i hi).1, get_other _ (pr i hi).2 at_, pd, nd, inr⟩
end
end Mine.Pure
-- part L5W
namespace Mine.Pure
open PySem
section
variable {T : Tab} {Φ : Funs} {Γ : Env'} {H : Hp} {Q : Val → Hp → Prop} {E : Nat → Hp → Prop} {d : Nat} {QS : Env' → Hp → Prop} {R : Val → Hp → Prop} {ES : Nat → Env' → Hp → Prop} {lr ld r c b l s : Nat} {g : List (List Val)} {v h : Val} {P : Nat → Prop} {ks : List Key}
noncomputable abbrev Γd (lr ld k : Nat) (q : Key) (h : Val) : Env' := [some (.loc lr), some (.loc ld), some (.int (k : Int)), some (valOf q), some h]
theorem du_at {i j k : Nat} {w : List Val} {y : Val} (G : GAt H lr b s g) (hw : g[i]? = some w) (hy : w[j]? = some y) (q : Q y H) : wpE T_05 Φ (.sub (.sub (.var 0) (.sub (.var 3) (.int 0))) (.sub (.var 3) (.int 1))) (Γd lr ld k ((i : Int), (j : Int)) h) H Q E := by
  show Wp (subV (.loc lr) (.int (i : Int))) H _ _
  rw [ws_eq3 G.top (G.item (List.getElem?_eq_some_iff.mp hw).1)]
  show Wp (subV (.loc (b + s * i)) (.int (j : Int))) H _ _
  rw [ws_eq3 (G.row i w hw) hy]
  exact q
theorem du_0 {i j : Nat} (x : Rw P H lr ld r c g ks) (hS : OkS r c) (og : OkG g r c) (hi : i < r) (hj : j < c) (kh : Flat h) {ss : MSs} :
    wpSs T_05 (callF T_05 (d + 1)) (.cons (.ite (.and (.cmp .isNot (.var 4) .none) (.or (.not (.call 6 (.cons (.var 4) .nil))) (.not (.cmp2 .le .le (.int 0) (.var 4) (.int 1000000000))))) (.cons (.ret (.some (.str "height"))) .nil) .nil) (.cons (.setitem (.sub (.var 0) (.sub (.var 3) (.int 0))) (.sub (.var 3) (.int 1)) (.var 4)) (.cons (.ite (.and (.cmp .is (.var 4) .none) (.cmp .isin (.var 3) (.var 1))) (.cons (.expr (.bm (.var 1) .remove (.cons (.var 3) .nil))) .nil) .nil) (.cons (.ret (.some .none)) .nil)))) (Γd lr ld 0 ((i : Int), (j : Int)) h) H QS ((act 0 (some ((i : Int), (j : Int))) h g (memS ks)).gave P H lr ld r c) ES := by
  refine wpE_then (du_height kh rfl) ?_
  rintro _ H ⟨rfl, rfl⟩
  rw [asBool_bool, brB_not]
  have un : act 0 (some ((i : Int), (j : Int))) h g (memS ks) = if isH h = true then ⟨.val .none, gput g ((i : Int), (j : Int)) h, if (isNo h && memS ks ((i : Int), (j : Int))) = true then srem (memS ks) ((i : Int), (j : Int)) else memS ks⟩ else ⟨.exc 2, g, memS ks⟩ := rfl
  refine brB_cases (fun e => ?_) fun e => ?_
  · rw [un, if_pos e]
    clear un
    refine ex2 (g_at og hi hj) fun w y zz => aNd4 zz fun hw hy _ lw => ?_
    refine ex2 (x.put (w' := w.set j h) og hS hi) fun b s zz => aNd3 zz fun G pi x1 => ?_
    rw [gput_eq hw]
    have og1 := okg_put (j := j) og hw (isH_HV e)
    rw [wps_nil, wps_cons, wps_setitem]
    show Wp (subV (.loc lr) (.int (i : Int))) _ _ _
    rw [ws_eq3 G.top (G.item (List.getElem?_eq_some_iff.mp hw).1)]
    show Wp (setitemV (.loc (b + s * i)) (.int (j : Int)) h) _ _ _
    rw [wa_setitem3 (G.row i w hw) (by exact o156) (by skip; exact o252 hj lw), Int.toNat_natCast]
    have K1 := Keep.set (H := H) pi (.list (w.set j h))
    generalize H.set (b + s * i) (.list (w.set j h)) = J at *
    have at_ : J[ld]? = some (.list (ks.map valOf)) := by obtain ⟨_, _, _, _, at_, _⟩ := x1; exact at_
    have pd : P ld := by obtain ⟨_, _, _, _, _, pd, _⟩ := x1; exact pd
    have nd : ks.Nodup := by obtain ⟨_, _, _, _, _, _, nd, _⟩ := x1; exact nd
    rw [wps_cons, wps_ite, wp_and, wp_cmp, wp_var, getV_of (v := h) rfl, wp_none, is_none]
    cases hno : isNo h with
    | false => exact ⟨rfl, K1, ks, x1, fun _ => rfl⟩
    | true =>
      show getO (cmpV .isin (valOf ((i : Int), (j : Int))) (.loc ld) J) _
      rw [(in_list at_ _).1]
      refine brB_cases (fun e' => ?_) fun e' => ?_
      · refine bm_rem rfl rfl at_ (of_decide_eq_true e') ⟨rfl, K1.trans (Keep.set pd _), _, x1.rem og1 hS, fun k => ?_⟩
        show _ = (if (true && memS ks ((i : Int), (j : Int))) = true then srem (memS ks) ((i : Int), (j : Int)) else memS ks) k
        rw [if_pos (show (true && memS ks ((i : Int), (j : Int))) = true from e')]
        exact mem_rem nd k
      · refine ⟨rfl, K1, ks, x1, fun k => ?_⟩
        show _ = (if (true && memS ks ((i : Int), (j : Int))) = true then srem (memS ks) ((i : Int), (j : Int)) else memS ks) k
        rw [if_neg (fun z => by rw [show memS ks ((i : Int), (j : Int)) = false from e'] at z; cases z)]
  · rw [un, if_neg (by rw [e]; exact Bool.false_ne_true)]
    exact ⟨rfl, Keep.refl _ _, ks, x, fun _ => rfl⟩
theorem du_1 {i j : Nat} (x : Rw P H lr ld r c g ks) (hS : OkS r c) (og : OkG g r c) (hi : i < r) (hj : j < c) (hl : ks.length < 1000) :
    wpSs T_05 (callF T_05 (d + 1)) (.cons (.ite (.cmp .is (.sub (.sub (.var 0) (.sub (.var 3) (.int 0))) (.sub (.var 3) (.int 1))) .none) (.cons (.ret (.some (.str "drain"))) .nil) .nil) (.cons (.ite (.cmp .notin (.var 3) (.var 1)) (.cons (.expr (.bm (.var 1) .append (.cons (.var 3) .nil))) .nil) .nil) (.cons (.ret (.some .none)) .nil))) (Γd lr ld 1 ((i : Int), (j : Int)) h) H QS ((act 1 (some ((i : Int), (j : Int))) h g (memS ks)).gave P H lr ld r c) ES := by
  refine ex2 (g_at og hi hj) fun w y zz => aNd4 zz fun hw hy _ lw => ?_
  have un : act 1 (some ((i : Int), (j : Int))) h g (memS ks) = if isNo y = true then ⟨.exc 4, g, memS ks⟩ else ⟨.val .none, g, sadd (memS ks) ((i : Int), (j : Int))⟩ := by rw [← gat_of hw hy]; rfl
  have G : ∃ b s, GAt H lr b s g := by obtain ⟨G, _⟩ := x; exact ⟨_, _, G⟩
  refine ex2 G fun b s G => ?_
  have at_ : H[ld]? = some (.list (ks.map valOf)) := by obtain ⟨_, _, _, _, at_, _⟩ := x; exact at_
  have pd : P ld := by obtain ⟨_, _, _, _, _, pd, _⟩ := x; exact pd
  rw [un]
  clear un
  refine du_at G hw hy ?_
  rw [wp_none, is_none]
  refine brB_cases (fun e => ?_) fun e => ?_
  · rw [if_pos e]; exact ⟨rfl, Keep.refl _ _, ks, x, fun _ => rfl⟩
  · rw [if_neg (by rw [e]; exact Bool.false_ne_true), wps_nil, wps_cons, wps_ite, wp_cmp]
    show getO (cmpV .notin (valOf ((i : Int), (j : Int))) (.loc ld) H) _
    rw [(in_list at_ _).2, getO_some, asBool_bool, brB_not]
    refine brB_cases (fun e' => ?_) fun e' => ?_
    · refine ⟨rfl, Keep.refl _ _, ks, x, fun k => ?_⟩
      have := mem_add (ks := ks) (q := ((i : Int), (j : Int))) k
      rw [if_pos (of_decide_eq_true e')] at this
      exact this
    · have nq : ¬ ((i : Int), (j : Int)) ∈ ks := of_decide_eq_false e'
      refine wp_appendE rfl at_ ⟨_, at_, by rw [List.length_map]; show _ < 16777216; exact o256 hl, ?_⟩
      have x2 := x.add (q := ((i : Int), (j : Int))) og hS (inR_of hi hj) nq
      rw [List.map_append] at x2
      refine ⟨rfl, Keep.set pd _, _, x2, fun k => ?_⟩
      have := mem_add (ks := ks) (q := ((i : Int), (j : Int))) k
      rw [if_neg nq] at this
      exact this
theorem du_2 {i j : Nat} (x : Rw P H lr ld r c g ks) (hS : OkS r c) (og : OkG g r c) (hi : i < r) (hj : j < c) :
    wpSs T_05 (callF T_05 (d + 1)) (.cons (.ite (.cmp .notin (.var 3) (.var 1)) (.cons (.ret (.some (.str "drain"))) .nil) .nil) (.cons (.expr (.bm (.var 1) .remove (.cons (.var 3) .nil))) (.cons (.ret (.some .none)) .nil))) (Γd lr ld 2 ((i : Int), (j : Int)) h) H QS ((act 2 (some ((i : Int), (j : Int))) h g (memS ks)).gave P H lr ld r c) ES := by
  have un : act 2 (some ((i : Int), (j : Int))) h g (memS ks) = if memS ks ((i : Int), (j : Int)) = true then ⟨.val .none, g, srem (memS ks) ((i : Int), (j : Int))⟩ else ⟨.exc 4, g, memS ks⟩ := rfl
  have at_ : H[ld]? = some (.list (ks.map valOf)) := by obtain ⟨_, _, _, _, at_, _⟩ := x; exact at_
  have pd : P ld := by obtain ⟨_, _, _, _, _, pd, _⟩ := x; exact pd
  have nd : ks.Nodup := by obtain ⟨_, _, _, _, _, _, nd, _⟩ := x; exact nd
  rw [un, wps_cons, wps_ite, wp_cmp]
  clear un
  show getO (cmpV .notin (valOf ((i : Int), (j : Int))) (.loc ld) H) _
  rw [(in_list at_ _).2, getO_some, asBool_bool, brB_not]
  refine brB_cases (fun e' => ?_) fun e' => ?_
  · rw [if_pos (show memS ks ((i : Int), (j : Int)) = true from e')]
    exact bm_rem rfl rfl at_ (of_decide_eq_true e') ⟨rfl, Keep.set pd _, _, x.rem og hS, fun k => mem_rem nd k⟩
  · rw [if_neg (by rw [show memS ks ((i : Int), (j : Int)) = false from e']; exact Bool.false_ne_true)]
    exact ⟨rfl, Keep.refl _ _, ks, x, fun _ => rfl⟩
theorem l05_due {k : Nat} (hk : k < 5) (x : Rw P H lr ld r c g ks) (hS : OkS r c) (og : OkG g r c) (kn : Kn H v) (kh : Flat h) (hl : ks.length < 1000) :
    Wp (callF T_05 (d + 3) 17 [.loc lr, .loc ld, .int (k : Int), v, h]) H ((act k (place r c v) h g (memS ks)).gave P H lr ld r c) NoE := by
  have G : ∃ b s, GAt H lr b s g := by obtain ⟨G, _⟩ := x; exact ⟨_, _, G⟩
  refine ex2 G fun b s G => ?_
  rw [wp_call (g := f17_05) rfl rfl, f17_05]
  rw [wps_cons, wps_ite, wp_not]
  refine Wp.then (l05_isCell hS og G kn) ?_
  rintro _ H ⟨rfl, rfl⟩
  rw [asBool_bool, asBool_bool, brB_not]
  refine brB_cases (fun e => ?_) fun e => ?_
  · obtain ⟨q, hq⟩ := Option.isSome_iff_exists.mp e
    refine aNd2 (place_some hq) fun zr0 zz => ex2 zz fun i j zz => aNd3 zz fun zr3 hi hj => ?_; subst zr0; subst zr3
    rw [hq]
    revert hk
    generalize k = k'
    revert k'
    refine five ?_ ?_ ?_ ?_ ?_
    · exact du_0 (d := d + 1) x hS og hi hj kh (ss := .nil)
    · exact du_1 (d := d + 1) x hS og hi hj hl
    · exact du_2 (d := d + 1) x hS og hi hj
    · have at_ : H[ld]? = some (.list (ks.map valOf)) := by obtain ⟨_, _, _, _, at_, _⟩ := x; exact at_
      show getO (cmpV .isin (valOf ((i : Int), (j : Int))) (.loc ld) H) _
      rw [(in_list at_ _).1]
      exact ⟨rfl, Keep.refl _ _, ks, x, fun _ => rfl⟩
    · refine ex2 (g_at og hi hj) fun w y zz => aNd4 zz fun hw hy _ lw => ?_
      refine du_at G hw hy ⟨(gat_of hw hy).symm, Keep.refl _ _, ks, x, fun _ => rfl⟩
  · have hn : place r c v = none := Option.not_isSome_iff_eq_none.mp (by rw [e]; exact Bool.false_ne_true)
    rw [hn]
    exact ⟨rfl, Keep.refl _ _, ks, x, fun _ => rfl⟩
end
end Mine.Pure
-- part L5X
namespace Mine.Pure
open PySem
theorem all_self : ∀ ds : List PyData, (∀ d ∈ ds, PyData.eqv d d = true) → PyData.eqvAll ds ds = true
  | [], _ => rfl
  | d :: ds, h => by
    show (PyData.eqv d d && PyData.eqvAll ds ds) = true
    rw [h d (.head _), all_self ds fun x hx => h x (.tail _ hx)]; rfl
noncomputable def vd : Val → PyData
  | .int i => .int i
  | _ => .none
noncomputable def NV (v : Val) : Prop := v = .none ∨ ∃ n, v = .int n
theorem vd_self {v : Val} (h : NV v) : PyData.eqv (vd v) (vd v) = true := by
  rcases h with rfl | ⟨n, rfl⟩
  · rfl
  · show (n == n) = true; simp
theorem dats_of {α : Type} {f : Val → Option PyData} {v : α → Val} {gd : α → PyData} (ks : List α) (h : ∀ k ∈ ks, f (v k) = some (gd k)) : dats f (ks.map v) = some (ks.map gd) := by
  induction ks with
  | nil => rfl
  | cons k ks ih =>
    show (match f (v k), dats f (ks.map v) with | some d, some ds => some (d :: ds) | _, _ => none) = _
    rw [h k (.head _), ih (fun k hk => h k (.tail _ hk))]; rfl
section
variable {T : Tab} {Φ : Funs} {Γ : Env'} {H K : Hp} {Q : Val → Hp → Prop} {E : Nat → Hp → Prop} {d : Nat} {QS : Env' → Hp → Prop} {R : Val → Hp → Prop} {ES : Nat → Env' → Hp → Prop} {l b s r c : Nat} {g : List (List Val)}
theorem vd_data {n : Nat} {v : Val} (h : NV v) : dataOf H n v = some (vd v) := by
  rcases h with rfl | ⟨i, rfl⟩
  · exact data_none n
  · exact data_int n i
theorem data_list {n l : Nat} {xs : List Val} (h : H[l]? = some (.list xs)) : dataOf H (n + 1) (.loc l) = (dats (dataOf H n) xs).map .list := by
  have : dataOf H (n + 1) (.loc l) = (match H[l]? with | some (.list xs) => (dats (dataOf H n) xs).map .list | _ => none) := rfl
  rw [this, h]
theorem data_row {n l : Nat} {w : List Val} (h : H[l]? = some (.list w)) (hw : ∀ v ∈ w, NV v) : dataOf H (n + 1) (.loc l) = some (.list (w.map vd)) := by
  rw [data_list h]
  have := dats_of (f := dataOf H n) (v := fun x => x) (gd := vd) w (fun v hv => vd_data (hw v hv))
  rw [List.map_id'] at this
  rw [this]; rfl
theorem data_grid (G : GAt H l b s g) (hg : ∀ w ∈ g, ∀ v ∈ w, NV v) : dataOf H deep (.loc l) = some (.list (g.map fun w => .list (w.map vd))) := by
  show dataOf H (5 + 1) (.loc l) = _
  rw [data_list G.top]
  have e : (List.range g.length).map (fun i => PyData.list (((g[i]?).getD []).map vd)) = g.map fun w => .list (w.map vd) := by
    refine List.ext_getElem? fun i => ?_
    rw [List.getElem?_map, List.getElem?_map]
    by_cases q : i < g.length
    · rw [List.getElem?_range q]
      show some (PyData.list (((g[i]?).getD []).map vd)) = _
      rw [List.getElem?_eq_getElem q]; rfl
    · rw [List.getElem?_eq_none (by rw [List.length_range]; exact o136 q), List.getElem?_eq_none (by exact o136 q)]; rfl
  rw [dats_of (gd := fun i => PyData.list (((g[i]?).getD []).map vd)) (List.range g.length) (fun i hi => ?_), e]
  · rfl
  · have q := List.mem_range.mp hi
    have hw : g[i]? = some g[i] := List.getElem?_eq_getElem q
    rw [data_row (n := 4) (G.row i _ hw) (hg _ (List.getElem_mem q)), hw]; rfl
theorem eq_grids {l' b' s' : Nat} (G : GAt H l b s g) (G' : GAt H l' b' s' g) (hg : ∀ w ∈ g, ∀ v ∈ w, NV v) : pyEq H (.loc l) (.loc l') = some true := by
  unfold pyEq
  rw [data_grid G hg, data_grid G' hg]
  show some (PyData.eqvAll _ _) = _
  rw [all_self]
  intro x hx
  refine ex1 (List.mem_map.mp hx) fun w zz => aNd2 zz fun hw zr2 => ?_; subst zr2
  show PyData.eqvAll _ _ = true
  refine all_self _ fun y hy => ?_
  refine ex1 (List.mem_map.mp hy) fun v zz => aNd2 zz fun hv zr2 => ?_; subst zr2
  exact vd_self (hg w hw v hv)
theorem OkG.nv (og : OkG g r c) : ∀ w ∈ g, ∀ v ∈ w, NV v := fun w hw v hv => by
  obtain ⟨i, hi⟩ := List.mem_iff_getElem?.mp hw
  rcases (og.row i w hi).2 v hv with h | ⟨n, h, _⟩
  · exact .inl h
  · exact .inr ⟨n, h⟩
end
noncomputable def klt (a b : Key) : Bool := decide (a.1 < b.1) || (decide (a.1 = b.1) && decide (a.2 < b.2))
theorem klt_iff {a b : Key} : klt a b = true ↔ (a.1 < b.1 ∨ (a.1 = b.1 ∧ a.2 < b.2)) := by
  unfold klt
  rw [Bool.or_eq_true, Bool.and_eq_true, decide_eq_true_iff, decide_eq_true_iff, decide_eq_true_iff]
theorem klt_no {a b : Key} (h : ¬ (a.1 < b.1 ∨ (a.1 = b.1 ∧ a.2 < b.2))) : klt a b = false := Bool.eq_false_iff.mpr fun q => h (klt_iff.mp q)
theorem lt_keys (a b : Key) : pyLt deep (valOf a) (valOf b) = some (klt a b) := by
  have e : pyLt deep (valOf a) (valOf b) = (match pyEq [] (.int a.1) (.int b.1) with
    | some true => (match pyEq [] (.int a.2) (.int b.2) with
      | some true => some false
      | some false => some (decide (a.2 < b.2))
      | none => none)
    | some false => some (decide (a.1 < b.1))
    | none => none) := rfl
  have pe : ∀ x y : Int, pyEq [] (.int x) (.int y) = some (decide (x = y)) := fun x y => rfl
  rw [e, pe, pe]
  unfold klt
  by_cases h1 : a.1 = b.1
  · rw [decide_eq_true h1, decide_eq_false (show ¬ a.1 < b.1 by exact o257 h1)]
    by_cases h2 : a.2 = b.2
    · rw [decide_eq_true h2, decide_eq_false (show ¬ a.2 < b.2 by exact o257 h2)]; rfl
    · rw [decide_eq_false h2]; rfl
  · rw [decide_eq_false h1]
    show some (decide (a.1 < b.1)) = some (decide (a.1 < b.1) || false)
    rw [Bool.or_false]
noncomputable def ltV (a b : Val) : Bool := match keyOf a, keyOf b with
  | some x, some y => klt x y
  | _, _ => false
theorem keys_order (ks : List Key) : Order (ks.map valOf) ltV := by
  have get : ∀ x ∈ ks.map valOf, ∃ k : Key, x = valOf k := fun x hx => by refine ex1 (List.mem_map.mp hx) fun k zz => aNd2 zz fun _ e => ?_; exact ⟨k, e.symm⟩
  refine ⟨fun x hx y hy => ?_, fun x hx y hy h => ?_, fun x hx y hy z hz h1 h2 => ?_, fun x hx y hy h1 h2 => ?_⟩
  · obtain ⟨a, rfl⟩ := get x hx
    obtain ⟨b, rfl⟩ := get y hy
    exact lt_keys a b
  · obtain ⟨a, rfl⟩ := get x hx
    obtain ⟨b, rfl⟩ := get y hy
    have h := klt_iff.mp (show klt a b = true from h)
    exact klt_no (a := b) (b := a) (by exact o258 h)
  · obtain ⟨a, rfl⟩ := get x hx
    obtain ⟨b, rfl⟩ := get y hy
    obtain ⟨c, rfl⟩ := get z hz
    have n1 : ¬ (b.1 < a.1 ∨ (b.1 = a.1 ∧ b.2 < a.2)) := fun q => by rw [show ltV (valOf b) (valOf a) = klt b a from rfl, klt_iff.mpr q] at h1; exact nomatch h1
    have n2 : ¬ (c.1 < b.1 ∨ (c.1 = b.1 ∧ c.2 < b.2)) := fun q => by rw [show ltV (valOf c) (valOf b) = klt c b from rfl, klt_iff.mpr q] at h2; exact nomatch h2
    exact klt_no (a := c) (b := a) (by exact o259 n1 n2)
  · obtain ⟨a, rfl⟩ := get x hx
    obtain ⟨b, rfl⟩ := get y hy
    have n1 : ¬ (a.1 < b.1 ∨ (a.1 = b.1 ∧ a.2 < b.2)) := fun q => by rw [show ltV (valOf a) (valOf b) = klt a b from rfl, klt_iff.mpr q] at h1; exact nomatch h1
    have n2 : ¬ (b.1 < a.1 ∨ (b.1 = a.1 ∧ b.2 < a.2)) := fun q => by rw [show ltV (valOf b) (valOf a) = klt b a from rfl, klt_iff.mpr q] at h2; exact nomatch h2
    rw [show a = b from Prod.ext (by exact o260 n1 n2) (by exact o261 n1 n2)]
theorem keys_pw (r c : Nat) : (keys r c).Pairwise fun a b => klt a b = true := by
  induction r with
  | zero => exact .nil
  | succ r ih =>
    rw [keys_succ, List.pairwise_append]
    refine ⟨ih, ?_, fun a ha b hb => ?_⟩
    · unfold rowKeys
      rw [List.pairwise_map]
      exact List.pairwise_lt_range.imp fun {i j} h => klt_iff (a := ((r : Int), ((i : Nat) : Int))) (b := ((r : Int), ((j : Nat) : Int))) |>.mpr (.inr ⟨rfl, Int.ofNat_lt.mpr h⟩)
    · have ha := of_decide_eq_true (mem_keys.mp ha)
      refine ex1 (List.mem_map.mp hb) fun j zz => aNd2 zz fun _ zr2 => ?_; subst zr2
      exact klt_iff.mpr (.inl ha.2.1)
theorem keys_nodup (r c : Nat) : (keys r c).Nodup := (keys_pw r c).imp fun {a b} h e => by
  have := klt_iff.mp h
  rw [e] at this
  exact o262 this
theorem keys_perm {r c : Nat} {ks : List Key} (nd : ks.Nodup) (inr : ∀ k ∈ ks, inR r c k = true) : ((keys r c).filter (memS ks)).Perm ks := by
  rw [List.perm_ext_iff_of_nodup ((keys_nodup r c).sublist (List.filter_sublist)) nd]
  intro k
  rw [List.mem_filter]
  exact ⟨fun h => of_decide_eq_true h.2, fun h => ⟨mem_keys.mpr (inr k h), decide_eq_true h⟩⟩
theorem keys_count {r c : Nat} {ks : List Key} (nd : ks.Nodup) (inr : ∀ k ∈ ks, inR r c k = true) (h : r * c ≤ 63) : ks.length ≤ 63 := by
  rw [← (keys_perm nd inr).length_eq]
  refine Nat.le_trans (List.length_filter_le _ _) ?_
  rw [keys_len]; exact h
theorem sort_keys {r c : Nat} {ks : List Key} (nd : ks.Nodup) (inr : ∀ k ∈ ks, inR r c k = true) (h : r * c ≤ 63) : sortOf (ks.map valOf) = some (((keys r c).filter (memS ks)).map valOf) := by
  have hl := keys_count nd inr h
  refine sortOf_eq ⟨by rw [List.length_map]; exact o263 hl, fun x hx => ?_, ltV, keys_order ks⟩ ⟨(keys_perm nd inr).map valOf, ?_⟩
  · refine ex1 (List.mem_map.mp hx) fun k zz => aNd2 zz fun _ zr2 => ?_; subst zr2
    exact ⟨_, _, rfl⟩
  · rw [List.pairwise_map]
    refine ((keys_pw r c).sublist List.filter_sublist).imp fun {a b} h => ?_
    rw [lt_keys]
    have := klt_iff.mp h
    rw [klt_no (a := b) (b := a) (by exact o258 this)]
section
variable {T : Tab} {Φ : Funs} {Γ : Env'} {H K : Hp} {Q : Val → Hp → Prop} {E : Nat → Hp → Prop} {d : Nat} {QS : Env' → Hp → Prop} {R : Val → Hp → Prop} {ES : Nat → Env' → Hp → Prop} {l b s r c N lr ld o : Nat} {g : List (List Val)} {P P' : Nat → Prop} {S : Key → Bool} {ks : List Key}
theorem wv_sorted {l : Nat} {xs ys : List Val} (h : H[l]? = some (.list xs)) (e : sortOf xs = some ys) (q : Q (.loc H.length) (H ++ [.list ys])) : Wp (bfV .sorted [.loc l]) H Q E := by
  refine Wp.of_eq ?_ q
  show (match H[l]? with
      | some (.list xs) => (match sortOf xs with
        | some ys => M.alloc (.list ys) H
        | none => .bad)
      | _ => .bad) = _
  rw [h]
  show (match sortOf xs with
        | some ys => M.alloc (.list ys) H
        | none => .bad) = _
  rw [e]; rfl
theorem l05_same {a a' : Nat} (ha : H[a]? = some (.list (ks.map valOf))) (hb : H[a']? = some (.list (ks.map valOf))) : Wp (callF T_05 (d + 2) 7 [.loc a, .loc a']) H (fun v H' => v = .bool true ∧ Ext H H') NoE := by
  rw [wp_call (g := f7_05) rfl rfl]
  show wpSs _ _ _ [some (.loc a), some (.loc a'), none, none] H _ _ _
  refine wps_no (fun K => K = H) ?_ ?_
  · skip
    show Wp (isinstV T_05 (.loc a) .list) H _ _
    rw [wi_list _ _ ha]
    show Wp (bfV .len [.loc a]) H _ _
    rw [wv_len_loc ha]
    show Wp (bfV .len [.loc a']) H _ _
    rw [wv_len_loc hb]
    exact ⟨congrArg Val.bool (show (!decide ((List.length (ks.map valOf) : Int) = List.length (ks.map valOf))) = false by rw [decide_eq_true rfl]; rfl), rfl⟩
  rintro H rfl
  refine wps_zipL (fun k Γ K => Ext (H ++ [.hid]) K ∧ ∃ x y, Γ = [some (.loc a), some (.loc a'), x, y]) (l := a) (m := a') ⟨rfl, rfl⟩ ⟨rfl, rfl⟩ ha hb rfl ⟨Ext.refl _, _, _, rfl⟩ (fun k Γ K h => h.1) ?_ (fun Γ K h => ⟨rfl, Ext.trans ⟨_, rfl⟩ h.1⟩)
  rintro k x y Γ K hx hy ⟨eK, _, _, hr1⟩; refine Eq.symm hr1 ▸ ?_
  rw [hx] at hy
  cases hy
  refine ex1 (map_get hx) fun zn0 zz => aNd2 zz fun hq hr2 => ?_; obtain ⟨i, j⟩ := zn0; refine Eq.symm hr2 ▸ ?_
  show brB (!decide (i = i)) _ _
  rw [decide_eq_true rfl]
  show brB (!decide (j = j)) _ _
  rw [decide_eq_true rfl]
  exact ⟨eK, _, _, rfl⟩
noncomputable def Tellable (a : Val) : Prop := HV a ∨ (∃ b, a = .bool b) ∨ ∃ e, (e = 2 ∨ e = 3 ∨ e = 4) ∧ a = .str (wordC e)
theorem l05_alike {a : Val} (h : Tellable a) : Wp (callF T_05 (d + 2) 18 [a, a]) H (fun v K => v = .bool true ∧ K = H) NoE := by
  rw [wp_call (g := f18_05) rfl rfl, f18_05]
  show wpSs _ _ _ [some a, some a] H _ _ _
  rcases h with (rfl | ⟨i, rfl, _⟩) | ⟨b, rfl⟩ | ⟨e, he, rfl⟩
  · exact ⟨rfl, rfl⟩
  · have q : wpE T_05 (callF T_05 (d + 1)) (.and (.call 6 (.cons (.var 0) .nil)) (.cmp .eq (.var 0) (.var 1))) [some (.int i), some (.int i)] H (fun v K => v = .bool true ∧ K = H) (fun c K => NoE c K) := by
      rw [wp_and, wp_callE, wp_cons, wp_var, getV_zero, wp_nil, l05_intK (x := .int i) trivial]
      exact ⟨congrArg Val.bool (decide_eq_true rfl), rfl⟩
    exact q
  · cases b <;> exact ⟨rfl, rfl⟩
  · have eq : ∀ w : Str, getO (cmpV .eq (.str w) (.str w) H) (fun r => Val.bool r = .bool true ∧ H = H) → wpSs T_05 (callF T_05 (d + 1)) (.cons (.ite (.cmp .is (.var 1) .none) (.cons (.ret (.some (.cmp .is (.var 0) .none))) .nil) .nil) (.cons (.ite (.isinst (.var 1) .bool) (.cons (.ret (.some (.and (.isinst (.var 0) .bool) (.cmp .eq (.var 0) (.var 1))))) .nil) .nil) (.cons (.ite (.isinst (.var 1) .str) (.cons (.ret (.some (.and (.isinst (.var 0) .str) (.cmp .eq (.var 0) (.var 1))))) .nil) .nil) (.cons (.ret (.some (.and (.call 6 (.cons (.var 0) .nil)) (.cmp .eq (.var 0) (.var 1))))) .nil)))) [some (.str w), some (.str w)] H (fun _ K => Val.none = .bool true ∧ K = H) (fun v K => v = .bool true ∧ K = H) (fun c _ K => NoE c K) := fun w q => q
    refine eq _ ?_
    rcases he with rfl | rfl | rfl
    · rw [show cmpV .eq (.str (wordC 2)) (.str (wordC 2)) H = some true by kernel_rfl]; exact ⟨rfl, rfl⟩
    · rw [show cmpV .eq (.str (wordC 3)) (.str (wordC 3)) H = some true by kernel_rfl]; exact ⟨rfl, rfl⟩
    · rw [show cmpV .eq (.str (wordC 4)) (.str (wordC 4)) H = some true by kernel_rfl]; exact ⟨rfl, rfl⟩
end
end Mine.Pure
-- part L5Y
namespace Mine.Pure
open PySem
structure W (P P' : Nat → Prop) (B : Nat) (H : Hp) (o lr ld r c N : Nat) (g : List (List Val)) (ks : List Key) : Prop where
  la : Ld P H o r c g (memS ks) N
  rw' : Rw P' H lr ld r c g ks
  og : OkG g r c
  bd : B ≤ H.length
structure Fix (P P' : Nat → Prop) (B r c : Nat) : Prop where
  hS : OkS r c
  rc : r * c ≤ 63
  dis : ∀ m, P m → ¬ P' m
  lt : ∀ m, P m ∨ P' m → m < B
noncomputable def PQ (P P' : Nat → Prop) : Nat → Prop := fun m => P m ∨ P' m
theorem Keep.mono {P Q : Nat → Prop} {H H' : Hp} (k : Keep P H H') (h : ∀ m, P m → Q m) : Keep Q H H' := ⟨k.len, fun m ob n => k.get m ob fun p => n (h m p)⟩
theorem Ld.ext {P : Nat → Prop} {H H' : Hp} {o r c N : Nat} {g : List (List Val)} {S : Key → Bool} (x : Ld P H o r c g S N) (og : OkG g r c) (e : Ext H H') : Ld P H' o r c g S N := x.keep og (fun _ _ h => h) (Keep.ext (P := fun _ => False) e)
theorem Rw.ext {P : Nat → Prop} {H H' : Hp} {lr ld r c : Nat} {g : List (List Val)} {ks : List Key} (x : Rw P H lr ld r c g ks) (og : OkG g r c) (e : Ext H H') : Rw P H' lr ld r c g ks := x.keep og (fun _ _ h => h) (Keep.ext (P := fun _ => False) e)
theorem W.ext {P P' : Nat → Prop} {B : Nat} {H H' : Hp} {o lr ld r c N : Nat} {g : List (List Val)} {ks : List Key} (x : W P P' B H o lr ld r c N g ks) (e : Ext H H') : W P P' B H' o lr ld r c N g ks := ⟨x.la.ext x.og e, x.rw'.ext x.og e, x.og, Nat.le_trans x.bd e.len⟩
noncomputable def Kn2 (P P' : Nat → Prop) (H : Hp) (v : Val) : Prop := Kn H v ∧ ∀ l, v = .loc l → ¬ PQ P P' l
theorem Kn2.keep {P P' : Nat → Prop} {H H' : Hp} {v : Val} (x : Kn2 P P' H v) (k : Keep (PQ P P') H H') : Kn2 P P' H' v := by
  obtain ⟨x1, x2⟩ := x
  refine ⟨?_, x2⟩
  cases v with
  | loc l =>
    obtain ⟨xs, h⟩ := x1
    exact ⟨xs, k.get _ _ (x2 l rfl) h⟩
  | _ => exact x1
theorem act_ok {r c k : Nat} {v h : Val} {g : List (List Val)} {S : Key → Bool} (og : OkG g r c) : OkG (act k (place r c v) h g S).g r c ∧ Tellable (told (act k (place r c v) h g S).out) := by
  refine act_el (C := fun A => OkG A.g r c ∧ Tellable (told A.out)) ⟨og, .inr (.inr ⟨3, .inr (.inl rfl), rfl⟩)⟩ ⟨og, .inr (.inr ⟨2, .inl rfl, rfl⟩)⟩ ⟨og, .inr (.inr ⟨4, .inr (.inr rfl), rfl⟩)⟩ (fun q S' hp e => ⟨?_, .inl (.inl rfl)⟩) (fun _ => ⟨og, .inl (.inl rfl)⟩) (fun _ => ⟨og, .inr (.inl ⟨_, rfl⟩)⟩) fun q hp => ⟨og, .inl ?_⟩
  · refine aNd2 (place_some hp) fun _ zz => ex2 zz fun i j zz => aNd3 zz fun zr3 hi hj => ?_; subst zr3
    refine ex2 (g_at og hi hj) fun w y zz => aNd4 zz fun hw hy hv _ => ?_
    show OkG (gput g ((i : Int), (j : Int)) h) r c
    rw [gput_eq hw]; exact okg_put og hw (isH_HV e)
  · refine aNd2 (place_some hp) fun _ zz => ex2 zz fun i j zz => aNd3 zz fun zr3 hi hj => ?_; subst zr3
    refine ex2 (g_at og hi hj) fun w y zz => aNd4 zz fun hw hy hv _ => ?_
    show HV (gat g ((i : Int), (j : Int)))
    rw [gat_of hw hy]; exact hv
section
variable {T : Tab} {Φ : Funs} {Γ : Env'} {H : Hp} {Q : Val → Hp → Prop} {E : Nat → Hp → Prop} {d : Nat} {QS : Env' → Hp → Prop} {R : Val → Hp → Prop} {ES : Nat → Env' → Hp → Prop} {o lr ld r c N B : Nat} {g : List (List Val)} {v h : Val} {P P' : Nat → Prop} {ks : List Key}
theorem Rw.count (x : Rw P H lr ld r c g ks) (rc : r * c ≤ 63) : ks.length ≤ 63 := by
  obtain ⟨_, _, _, _, _, _, nd, inr⟩ := x
  exact keys_count nd inr rc
theorem dd_both {k : Nat} (F : Fix P P' B r c) (hk : k < 5) (x : W P P' B H o lr ld r c N g ks) (kn : Kn2 P P' H v) (kh : Flat h) (hN : N < 1000)
    (q : ∀ K a g' ks', Tellable a → Keep (PQ P P') H K → W P P' B K o lr ld r c (N + 1) g' ks' → Wp (callF T_05 (d + 6) 18 [a, a]) K Q E) :
    Wp (callF T_05 (d + 6) 15 [.loc o, .int (k : Int), v, h]) H (fun a K => Wp (callF T_05 (d + 6) 17 [.loc lr, .loc ld, .int (k : Int), v, h]) K (fun a' K' => Wp (callF T_05 (d + 6) 18 [a, a']) K' Q E) E) E := by
  refine Wp.then (l05_said (d := d + 1) hk x.la F.hS x.og kn.1 kh hN) ?_
  rintro _ K ⟨rfl, k1, L1⟩
  have R1 := x.rw'.keep x.og (fun m a b => F.dis m b a) k1
  have kn1 := kn.keep (k1.mono fun m h => .inl h)
  refine Wp.then (l05_due (d := d + 3) hk R1 F.hS x.og kn1.1 kh (by have := R1.count F.rc; exact o264 this)) ?_
  intro _ K' zz
  refine aNd3 zz fun zr0 k2 zz => ex1 zz fun ks' zz => aNd2 zz fun R2 hm => ?_; subst zr0
  obtain ⟨og', tl⟩ := act_ok (k := k) (v := v) (h := h) (S := memS ks) x.og
  have L2 := L1.keep og' F.dis k2
  rw [show (act k (place r c v) h g (memS ks)).S = memS ks' from funext fun k => (hm k).symm] at L2
  exact q K' _ _ ks' tl ((k1.mono fun m h => .inl h).trans (k2.mono fun m h => .inr h)) ⟨L2, R2, og', Nat.le_trans x.bd (Nat.le_trans k1.len k2.len)⟩
theorem dd_both' {k : Nat} (F : Fix P P' B r c) (hk : k < 5) (x : W P P' B H o lr ld r c N g ks) (kn : Kn2 P P' H v) (kh : Flat h) (hN : N < 1000) :
    Wp (callF T_05 (d + 6) 17 [.loc lr, .loc ld, .int (k : Int), v, h]) H (fun a K => Tellable a ∧ ∃ g' ks', (∀ {Q : Val → Hp → Prop} {E : Nat → Hp → Prop}, (∀ K', Keep (PQ P P') H K' → W P P' B K' o lr ld r c (N + 1) g' ks' → Q a K') → Wp (callF T_05 (d + 6) 15 [.loc o, .int (k : Int), v, h]) K Q E)) NoE := by
  refine Wp.then (l05_due (d := d + 3) hk x.rw' F.hS x.og kn.1 kh (by have := x.rw'.count F.rc; exact o264 this)) ?_
  intro _ K zz
  refine aNd3 zz fun zr0 k2 zz => ex1 zz fun ks' zz => aNd2 zz fun R2 hm => ?_; subst zr0
  obtain ⟨og', tl⟩ := act_ok (k := k) (v := v) (h := h) (S := memS ks) x.og
  refine ⟨tl, (act k (place r c v) h g (memS ks)).g, ks', fun {Q E} q => ?_⟩
  have L1 := x.la.keep x.og F.dis k2
  have kn1 := kn.keep (k2.mono fun m h => .inr h)
  refine Wp.then (l05_said (d := d + 1) hk L1 F.hS x.og kn1.1 kh hN) ?_
  rintro _ K' ⟨rfl, k1, L2⟩
  rw [show (act k (place r c v) h g (memS ks)).S = memS ks' from funext fun k => (hm k).symm] at L2
  exact q K' ((k2.mono fun m h => .inr h).trans (k1.mono fun m h => .inl h)) ⟨L2, R2.keep og' (fun m a b => F.dis m b a) k1, og', Nat.le_trans x.bd (Nat.le_trans k2.len k1.len)⟩
theorem dd_same {i j : Nat} (F : Fix P P' B r c) (x : W P P' B H o lr ld r c N g ks) (hi : Γ[i]? = some (some (.loc o))) (hj : Γ[j]? = some (some (.loc ld))) : wpE T_05 (callF T_05 (d + 6)) (.call 7 (.cons (.umeth (.var i) 7 .nil) (.cons (.bf .sorted (.cons (.var j) .nil)) .nil))) Γ H (fun v K => v = .bool true ∧ Ext H K) NoE := by
  have hS := F.hS
  unfold OkS at hS
  obtain @⟨lg, b, ls, es, L, _, _, _, _, hs, _, _⟩ := x.la
  obtain ⟨_, _, _, _, at_, _, nd, inr⟩ := x.rw'
  refine ex1 L.inst fun fs zz => aNd2 zz fun h0 _ => ?_
  rw [wp_callE, wp_cons, wp_umeth, wp_var, getV_of hi, wu_meth3 h0 (show T_05.meth 7 7 = some 28 from rfl), wp_nil]
  refine Wp.then (l05_drains (d := d + 4) (by exact o265 hS) (by exact o212 hS) L) ?_
  intro _ K zz
  refine ex1 zz fun m zz => aNd4 zz fun zr1 _ e hm => ?_; subst zr1
  rw [wp_cons, wp_bf, wp_cons, wp_var, getV_of hj, wp_nil]
  refine wv_sorted (e.get at_) (sort_keys nd inr F.rc) ?_
  have hm : K[m]? = some (.list (((keys r c).filter (memS ks)).map valOf)) := by
    rw [hm, ← keys_cells, List.filter_map]
    congr 4
    funext k
    exact hs k
  rw [wp_nil]
  refine Wp.then (l05_same (d := d + 4) (Ext.get ⟨_, rfl⟩ hm) (get_new K _)) ?_
  rintro _ K' ⟨rfl, e'⟩
  exact ⟨rfl, (e.new _).trans e'⟩
theorem dd_heights {i j : Nat} (F : Fix P P' B r c) (x : W P P' B H o lr ld r c N g ks) (hi : Γ[i]? = some (some (.loc o))) (hj : Γ[j]? = some (some (.loc lr))) : wpE T_05 (callF T_05 (d + 6)) (.cmp .eq (.umeth (.var i) 8 .nil) (.var j)) Γ H (fun v K => v = .bool true ∧ Ext H K) NoE ∧ wpE T_05 (callF T_05 (d + 6)) (.cmp .ne (.umeth (.var i) 8 .nil) (.var j)) Γ H (fun v K => v = .bool false ∧ Ext H K) NoE := by
  have hS := F.hS
  unfold OkS at hS
  obtain @⟨lg, b, ls, es, L, _, _, _, _, hs, _, _⟩ := x.la
  obtain ⟨G, _⟩ := x.rw'
  refine ex1 L.inst fun fs zz => aNd2 zz fun h0 _ => ?_
  have one : ∀ {Q : Val → Hp → Prop} (op : COp), (∀ a K, Ext H K → pyEq K (.loc a) (.loc lr) = some true → getO (cmpV op (.loc a) (.loc lr) K) fun r => Q (.bool r) K) → wpE T_05 (callF T_05 (d + 6)) (.cmp op (.umeth (.var i) 8 .nil) (.var j)) Γ H Q NoE := fun {Q} op q => by
    rw [wp_cmp, wp_umeth, wp_var, getV_of hi, wu_meth3 h0 (show T_05.meth 7 8 = some 29 from rfl), wp_nil]
    refine Wp.then (l05_heights (d := d + 5) x.og (by exact o265 hS) L) ?_
    rintro _ K ⟨rfl, e, G'⟩
    rw [wp_var, getV_of hj]
    exact q _ K e (eq_grids G' (G.ext e) x.og.nv)
  refine ⟨one .eq fun a K e h => ?_, one .ne fun a K e h => ?_⟩
  · rw [show cmpV .eq (.loc a) (.loc lr) K = pyEq K (.loc a) (.loc lr) from rfl, h]; exact ⟨rfl, e⟩
  · rw [show cmpV .ne (.loc a) (.loc lr) K = flip true (pyEq K (.loc a) (.loc lr)) from rfl, h]; exact ⟨rfl, e⟩
end
end Mine.Pure
-- part L5Z
namespace Mine.Pure
open PySem
section
variable {T : Tab} {Φ : Funs} {Γ : Env'} {H : Hp} {Q : Val → Hp → Prop} {E : Nat → Hp → Prop} {d : Nat} {QS : Env' → Hp → Prop} {R : Val → Hp → Prop} {ES : Nat → Env' → Hp → Prop} {o lr ld r c N B : Nat} {g : List (List Val)} {v h : Val} {P P' : Nat → Prop} {ks : List Key}
noncomputable abbrev Γ6 (o lr ld : Nat) (n : Int) (k : Nat) (i5 i6 : Int) (v : Val) (v8 v9 v10 : Option Val) : Env' := [some (.loc o), some (.loc lr), some (.loc ld), some (.int n), some (.int (k : Int)), some (.int i5), some (.int i6), some v, v8, v9, v10]
theorem dd_some {n i5 i6 : Int} {k : Nat} (F : Fix P P' B r c) (x : W P P' B H o lr ld r c N g ks) (q : ∀ K v v8, Ext H K → Kn2 P P' K v → QS (Γ6 o lr ld n k i5 i6 v v8 none none) K) :
    wpS T_05 (callF T_05 (d + 6)) (.ite (.cmp .eq (.bin .mod (.bin .fdiv (.var 3) (.int 7)) (.int 9)) (.int 0)) (.cons (.assign 8 (.list (.cons (.list (.cons (.var 5) (.cons (.var 6) .nil))) (.cons (.tup (.cons (.var 5) (.cons (.var 6) (.cons (.int 0) .nil)))) (.cons (.tup (.cons (.bool true) (.cons (.int 0) .nil))) (.cons (.tup (.cons (.int 0) (.cons (.bool false) .nil))) (.cons (.tup (.cons (.var 5) .nil)) (.cons .none (.cons (.tup (.cons (.str "0") (.cons (.int 0) .nil))) (.cons (.tup (.cons (.int 0) (.cons .none .nil))) (.cons (.tup (.cons (.tup (.cons (.int 0) (.cons (.int 0) .nil))) (.cons (.int 0) .nil))) .nil))))))))))) (.cons (.assign 7 (.sub (.var 8) (.bin .mod (.bin .fdiv (.var 3) (.int 63)) (.int 9)))) .nil)) .nil) (Γ6 o lr ld n k i5 i6 (.tup [.int i5, .int i6]) none none none) H QS R ES := by
  have fl : ∀ a b : Val, Flat a → Flat b → ∀ x ∈ [a, b], Flat x := fun a b ha hb x hx => by
    cases hx with
    | head => exact ha
    | tail _ hx => cases List.mem_singleton.mp hx; exact hb
  have tp : ∀ (K : Hp) (vs : List Val), (∀ x ∈ vs, Flat x) → Kn2 P P' K (.tup vs) := fun K vs h => ⟨h, fun l e => by cases e⟩
  rw [wps_ite]
  refine ⟨by decide, by decide, ?_⟩
  show brB (decide (Int.fmod (Int.fdiv n 7) 9 = 0)) _ _
  refine brB_split (fun _ => ?_) fun _ => q H _ _ (Ext.refl H) (tp H _ (fl _ _ trivial trivial))
  refine ex1 (fmod_nat (Int.fdiv n 63) 9 (by decide)) fun j zz => aNd2 zz fun hj lj => ?_
  rw [wps_cons, wps_assign]
  show wpSs T_05 _ _ (Γ6 o lr ld n k i5 i6 (.tup [.int i5, .int i6]) (some (.loc (H ++ [HObj.list [.int i5, .int i6]]).length)) none none) (H ++ [.list [.int i5, .int i6]] ++ [.list [.loc H.length, .tup [.int i5, .int i6, .int 0], .tup [.bool true, .int 0], .tup [.int 0, .bool false], .tup [.int i5], .none, .tup [.str "0", .int 0], .tup [.int 0, .none], .tup [.tup [.int 0, .int 0], .int 0]]]) _ _ _
  rw [wps_cons, wps_assign]
  refine ⟨by decide, by decide, ?_⟩
  show Wp (subV (.loc (H ++ [HObj.list [.int i5, .int i6]]).length) (.int (Int.fmod (Int.fdiv n 63) 9))) _ _ _
  rw [show Int.fmod (Int.fdiv n 63) 9 = (j : Int) from hj]
  have e := List.getElem?_eq_getElem (l := [Val.loc H.length, .tup [.int i5, .int i6, .int 0], .tup [.bool true, .int 0], .tup [.int 0, .bool false], .tup [.int i5], .none, .tup [.str "0", .int 0], .tup [.int 0, .none], .tup [.tup [.int 0, .int 0], .int 0]]) lj
  have h0 : (H ++ [HObj.list [.int i5, .int i6]] ++ [.list [Val.loc H.length, .tup [.int i5, .int i6, .int 0], .tup [.bool true, .int 0], .tup [.int 0, .bool false], .tup [.int i5], .none, .tup [.str "0", .int 0], .tup [.int 0, .none], .tup [.tup [.int 0, .int 0], .int 0]]])[H.length]? = some (.list [.int i5, .int i6]) := Ext.get ⟨_, rfl⟩ (get_new H _)
  refine ws_list (get_new _ _) (by exact o266 lj) (by rw [Int.toNat_natCast]; exact e) (q _ _ _ (Ext.new ⟨_, rfl⟩ _) ?_)
  have bd := x.bd
  generalize (H ++ [HObj.list [.int i5, .int i6]] ++ [HObj.list [Val.loc H.length, .tup [.int i5, .int i6, .int 0], .tup [.bool true, .int 0], .tup [.int 0, .bool false], .tup [.int i5], .none, .tup [.str "0", .int 0], .tup [.int 0, .none], .tup [.tup [.int 0, .int 0], .int 0]]]) = K at h0 ⊢
  have three : ∀ x ∈ [Val.int i5, .int i6, .int 0], Flat x := fun x hx => by
    cases hx with
    | head => trivial
    | tail _ hx => exact fl (.int i6) (.int 0) trivial trivial x hx
  have one : ∀ x ∈ [Val.int i5], Flat x := fun x hx => by cases List.mem_singleton.mp hx; trivial
  refine (fun (all : ∀ x ∈ _, Kn2 P P' K x) => all _ (List.getElem_mem lj)) ?_
  exact fc ⟨⟨_, h0⟩, fun l e' p => by cases e'; have := F.lt _ p; exact o106 this bd⟩ (fc (tp K _ three) (fc (tp K _ (fl (.bool true) (.int 0) trivial trivial)) (fc (tp K _ (fl (.int 0) (.bool false) trivial trivial)) (fc (tp K _ one) (fc ⟨trivial, fun l e' => by cases e'⟩ (fc (tp K _ (fl (.str "0") (.int 0) trivial trivial)) (fc (tp K _ (fl (.int 0) .none trivial trivial)) (fc (tp K _ (fl (.tup [.int 0, .int 0]) (.int 0) trivial trivial)) fcn))))))))
theorem dd_drain {n i5 i6 : Int} {k : Nat} {v8 : Option Val} (x : W P P' B H o lr ld r c N g ks) (kn : Kn2 P P' H v) (q : ∀ v, Kn2 P P' H v → QS (Γ6 o lr ld n k i5 i6 v v8 none none) H) :
    wpS T_05 (callF T_05 (d + 6)) (.ite (.and (.cmp .gt (.bf .len (.cons (.var 2) .nil)) (.int 0)) (.cmp .gt (.bin .mod (.bin .fdiv (.var 3) (.int 7)) (.int 9)) (.int 5))) (.cons (.assign 7 (.sub (.var 2) (.bin .mod (.bin .fdiv (.var 3) (.int 63)) (.bf .len (.cons (.var 2) .nil))))) .nil) .nil) (Γ6 o lr ld n k i5 i6 v v8 none none) H QS R ES := by
  obtain ⟨_, _, _, _, at_, _, nd, inr⟩ := x.rw'
  rw [wps_ite, wp_and, wp_cmp]
  show Wp (bfV .len [.loc ld]) H _ _
  rw [wv_len_loc at_, List.length_map]
  show brB (decide ((ks.length : Int) > 0)) _ _
  refine brB_split (fun h1 => ?_) fun _ => q v kn
  refine ⟨by decide, by decide, ?_⟩
  show brB (decide (Int.fmod (Int.fdiv n 7) 9 > 5)) _ _
  refine brB_split (fun _ => ?_) fun _ => q v kn
  refine ex1 (fmod_nat (Int.fdiv n 63) ks.length (by exact o267 h1)) fun j zz => aNd2 zz fun hj lj => ?_
  rw [wps_cons, wps_assign]
  refine ⟨by decide, ?_⟩
  show Wp (bfV .len [.loc ld]) H _ _
  rw [wv_len_loc at_, List.length_map]
  refine ⟨by exact o268 h1, ?_⟩
  show Wp (subV (.loc ld) (.int (Int.fmod (Int.fdiv n 63) (ks.length : Int)))) H _ _
  rw [hj]
  obtain ⟨p, hp⟩ : ∃ p, ks[j]? = some p := ⟨_, List.getElem?_eq_getElem lj⟩
  refine ws_list at_ (by exact o156) (v := valOf p) (by rw [Int.toNat_natCast, List.getElem?_map, hp]; rfl) (q _ ⟨?_, fun l e => by cases e⟩)
  intro x hx
  cases hx with
  | head => trivial
  | tail _ hx => cases List.mem_singleton.mp hx; trivial
theorem dd_h {n i5 i6 : Int} {k : Nat} {v8 : Option Val} (q : ∀ K h, Ext H K → Flat h → QS (Γ6 o lr ld n k i5 i6 v v8 (some h) none) K) :
    wpS T_05 (callF T_05 (d + 6)) (.assign 9 (.sub (.list (.cons .none (.cons (.int 0) (.cons (.bin .mod (.bin .fdiv (.var 3) (.int 13)) (.int 1000000001)) (.cons (.int 1000000000) (.cons (.int 1000000001) (.cons (.neg (.int 1)) (.cons (.bool true) (.cons (.str "2") .nil))))))))) (.bin .mod (.bin .fdiv (.var 3) (.int 11)) (.int 8)))) (Γ6 o lr ld n k i5 i6 v v8 none none) H QS R ES := by
  refine ex1 (fmod_nat (Int.fdiv n 11) 8 (by decide)) fun j zz => aNd2 zz fun hj lj => ?_
  refine ⟨by decide, by decide, by decide, by decide, ?_⟩
  show Wp (subV (.loc H.length) (.int (Int.fmod (Int.fdiv n 11) 8))) (H ++ [.list [.none, .int 0, .int (Int.fmod (Int.fdiv n 13) 1000000001), .int 1000000000, .int 1000000001, .int (-1), .bool true, .str "2"]]) _ _
  rw [show Int.fmod (Int.fdiv n 11) 8 = (j : Int) from hj]
  have e := List.getElem?_eq_getElem (l := [Val.none, .int 0, .int (Int.fmod (Int.fdiv n 13) 1000000001), .int 1000000000, .int 1000000001, .int (-1), .bool true, .str "2"]) lj
  refine ws_list (get_new _ _) (by exact o204 lj) (by skip; exact e) (q _ _ ⟨_, rfl⟩ ?_)
  refine (fun (all : ∀ x ∈ _, Flat x) => all _ (List.getElem_mem lj)) ?_
  exact fc trivial (fc trivial (fc trivial (fc trivial (fc trivial (fc trivial (fc trivial (fc trivial fcn)))))))
end
end Mine.Pure
-- part L5P
namespace Mine.Pure
open PySem
section
variable {T : Tab} {Φ : Funs} {Γ : Env'} {H : Hp} {Q : Val → Hp → Prop} {E : Nat → Hp → Prop} {d : Nat} {QS : Env' → Hp → Prop} {R : Val → Hp → Prop} {ES : Nat → Env' → Hp → Prop} {o lr ld r c N M B : Nat} {g : List (List Val)} {v h : Val} {P P' : Nat → Prop} {ks : List Key}
theorem W.le (x : W P P' B H o lr ld r c N g ks) (h : N ≤ M) : W P P' B H o lr ld r c M g ks := by
  obtain ⟨la, rw', og, bd⟩ := x
  obtain ⟨L, po, pg, ps, pr, hs, len, nd⟩ := la
  exact ⟨⟨L, po, pg, ps, pr, hs, Nat.le_trans len h, nd⟩, rw', og, bd⟩
theorem dd_ask {ss : MSs} (F : Fix P P' B r c) (x : W P P' B H o lr ld r c N g ks) (h0 : Γ[0]? = some (some (.loc o))) (q : ∀ K, Ext H K → wpSs T_05 (callF T_05 (d + 6)) ss Γ K QS R ES) :
    wpSs T_05 (callF T_05 (d + 6)) (.cons (.expr (.bm (.umeth (.var 0) 7 .nil) .append (.cons (.tup (.cons (.int 0) (.cons (.int 0) .nil))) .nil))) ss) Γ H QS R ES := by
  have hS := F.hS
  unfold OkS at hS
  obtain @⟨lg, b, ls, es, L, _⟩ := x.la
  refine ex1 L.inst fun fs zz => aNd2 zz fun f0 _ => ?_
  rw [wps_cons, wps_expr, wp_bm, wp_umeth, wp_var, getV_of h0, wu_meth3 f0 (show T_05.meth 7 7 = some 28 from rfl)]
  refine Wp.then (l05_drains (d := d + 4) (by exact o265 hS) (by exact o212 hS) L) ?_
  intro _ K zz
  refine ex1 zz fun m zz => aNd4 zz fun zr1 hm e at_ => ?_; subst zr1
  rw [fits_append at_]
  refine wm_append at_ ?_ (q _ (e.set hm _))
  refine Nat.lt_of_le_of_lt (List.length_filter_le _ _) ?_
  rw [cells_len]
  exact Nat.lt_of_le_of_lt F.rc (by decide)
theorem dd_rest {n i5 i6 : Int} {k : Nat} {v8 : Option Val} (F : Fix P P' B r c) (hk : k < 5) (x : W P P' B H o lr ld r c N g ks) (kn : Kn2 P P' H v) (kh : Flat h) (hN : N < 1000) (q : ∀ K g' ks', Keep (PQ P P') H K → W P P' B K o lr ld r c (N + 1) g' ks' → R (.bool true) K) :
    wpSs T_05 (callF T_05 (d + 6)) (.cons (.assign 10 (.call 17 (.cons (.var 1) (.cons (.var 2) (.cons (.var 4) (.cons (.var 7) (.cons (.var 9) .nil))))))) (.cons (.ite (.not (.call 18 (.cons (.call 15 (.cons (.var 0) (.cons (.var 4) (.cons (.var 7) (.cons (.var 9) .nil))))) (.cons (.var 10) .nil)))) (.cons (.ret (.some (.bool false))) .nil) .nil) (.cons (.expr (.bm (.umeth (.var 0) 7 .nil) .append (.cons (.tup (.cons (.int 0) (.cons (.int 0) .nil))) .nil))) (.cons (.ret (.some (.and (.call 7 (.cons (.umeth (.var 0) 7 .nil) (.cons (.bf .sorted (.cons (.var 2) .nil)) .nil))) (.cmp .eq (.umeth (.var 0) 8 .nil) (.var 1))))) .nil)))) (Γ6 o lr ld n k i5 i6 v v8 (some h) none) H QS R ES := by
  rw [wps_cons, wps_assign, wp_callE]
  rw [wp_cons, wp_var, getV_of (v := .loc lr) rfl, wp_cons, wp_var, getV_of (v := .loc ld) rfl, wp_cons, wp_var, getV_of (v := .int (k : Int)) rfl, wp_cons, wp_var, getV_of (v := v) rfl, wp_cons, wp_var, getV_of (v := h) rfl]
  refine Wp.then (dd_both' (d := d) F hk x kn kh hN) ?_
  intro a K1 zz
  refine aNd2 zz fun ta zz => ex2 zz fun g' ks' said => ?_
  rw [wps_cons, wps_ite, wp_not, wp_callE]
  rw [wp_cons, wp_callE, wp_cons, wp_var, getV_of (v := .loc o) rfl, wp_cons, wp_var, getV_of (v := .int (k : Int)) rfl, wp_cons, wp_var, getV_of (v := v) rfl, wp_cons, wp_var, getV_of (v := h) rfl]
  refine said fun K2 k2 x2 => ?_
  rw [wp_cons, wp_var, getV_of (v := a) rfl]
  refine Wp.then (l05_alike (d := d + 4) ta) ?_
  rintro _ K3 ⟨rfl, rfl⟩
  refine dd_ask F x2 rfl fun K4 e4 => ?_
  have x4 := x2.ext e4
  rw [wps_cons, wps_ret, wp_oSome, wp_and]
  refine wpE_then (dd_same F x4 rfl rfl) ?_
  rintro _ K5 ⟨rfl, e5⟩
  refine wpE_then (dd_heights F (x4.ext e5) rfl rfl).1 ?_
  rintro _ K6 ⟨rfl, e6⟩
  exact q K6 g' ks' (k2.trans (Keep.ext (e4.trans (e5.trans e6)))) ((x4.ext e5).ext e6)
theorem dd_stone {n i5 i6 : Int} {k : Nat} {v8 : Option Val} (F : Fix P P' B r c) (hk : k < 5) (x : W P P' B H o lr ld r c N g ks) (kn : Kn2 P P' H v) (kh : Flat h) (hN : N < 1000)
    (q : ∀ K g' ks' k' h', k' < 5 → Flat h' → Keep (PQ P P') H K → W P P' B K o lr ld r c (N + 1) g' ks' → QS (Γ6 o lr ld n k' i5 i6 v v8 (some h') none) K) :
    wpS T_05 (callF T_05 (d + 6)) (.ite (.cmp .eq (.bin .mod (.bin .fdiv (.var 3) (.int 3)) (.int 7)) (.int 6)) (.cons (.ite (.not (.call 18 (.cons (.call 15 (.cons (.var 0) (.cons (.int 0) (.cons (.var 7) (.cons .none .nil))))) (.cons (.call 17 (.cons (.var 1) (.cons (.var 2) (.cons (.int 0) (.cons (.var 7) (.cons .none .nil)))))) .nil)))) (.cons (.ret (.some (.bool false))) .nil) .nil) (.cons (.assign 4 (.int 0)) (.cons (.assign 9 (.bin .mod (.bin .fdiv (.var 3) (.int 13)) (.int 1000000001))) .nil))) .nil) (Γ6 o lr ld n k i5 i6 v v8 (some h) none) H QS R ES := by
  refine ⟨by decide, by decide, ?_⟩
  refine brB_split (fun _ => ?_) fun _ => q H g ks k h hk kh (Keep.refl _ _) (x.le (Nat.le_succ _))
  have both := dd_both (d := d) (k := 0) (v := v) (h := .none) (Q := fun v K => v = .bool true ∧ ∃ g' ks', Keep (PQ P P') H K ∧ W P P' B K o lr ld r c (N + 1) g' ks') (E := NoE) F (by decide) x kn trivial hN fun K a g' ks' ta kK xK => Wp.then (l05_alike (d := d + 4) ta) (by rintro _ K3 ⟨rfl, rfl⟩; exact ⟨rfl, g', ks', kK, xK⟩)
  refine Wp.then both ?_
  intro a K hK
  refine Wp.then hK ?_
  intro a' K' hK'
  refine Wp.then hK' ?_
  intro _ K2 zz
  refine aNd2 zz fun zr0 zz => ex2 zz fun g' ks' zz => aNd2 zz fun kK xK => ?_; subst zr0
  exact ⟨by decide, by decide, q K2 g' ks' 0 _ (by decide) trivial kK xK⟩
theorem l05_deed (F : Fix P P' B r c) (x : W P P' B H o lr ld r c N g ks) (hN : N + 2 < 1000) (n : Int) : Wp (callF T_05 (d + 7) 19 [.loc o, .loc lr, .loc ld, .int n]) H (fun v K => v = .bool true ∧ Keep (PQ P P') H K ∧ ∃ g' ks', W P P' B K o lr ld r c (N + 2) g' ks') NoE := by
  refine ex1 (fmod_nat n 5 (by decide)) fun k zz => aNd2 zz fun hk lk => ?_
  have G : ∃ b s, GAt H lr b s g := by obtain ⟨G, _⟩ := x.rw'; exact ⟨_, _, G⟩
  refine ex2 G fun b s G => ?_
  rw [wp_call (g := f19_05) rfl rfl]
  refine ⟨by decide, ?_⟩
  show wpSs T_05 (callF T_05 (d + 6)) (.cons (.assign 5 (.bin .sub (.bin .mod (.bin .fdiv (.var 3) (.int 5)) (.bin .add (.bf .len (.cons (.var 1) .nil)) (.int 2))) (.int 1))) (.cons (.assign 6 (.bin .sub (.bin .mod (.bin .fdiv (.var 3) (.int 160)) (.bin .add (.bf .len (.cons (.sub (.var 1) (.int 0)) .nil)) (.int 2))) (.int 1))) (.cons (.assign 7 (.tup (.cons (.var 5) (.cons (.var 6) .nil)))) (.cons (.ite (.cmp .eq (.bin .mod (.bin .fdiv (.var 3) (.int 7)) (.int 9)) (.int 0)) (.cons (.assign 8 (.list (.cons (.list (.cons (.var 5) (.cons (.var 6) .nil))) (.cons (.tup (.cons (.var 5) (.cons (.var 6) (.cons (.int 0) .nil)))) (.cons (.tup (.cons (.bool true) (.cons (.int 0) .nil))) (.cons (.tup (.cons (.int 0) (.cons (.bool false) .nil))) (.cons (.tup (.cons (.var 5) .nil)) (.cons .none (.cons (.tup (.cons (.str "0") (.cons (.int 0) .nil))) (.cons (.tup (.cons (.int 0) (.cons .none .nil))) (.cons (.tup (.cons (.tup (.cons (.int 0) (.cons (.int 0) .nil))) (.cons (.int 0) .nil))) .nil))))))))))) (.cons (.assign 7 (.sub (.var 8) (.bin .mod (.bin .fdiv (.var 3) (.int 63)) (.int 9)))) .nil)) .nil) (.cons (.ite (.and (.cmp .gt (.bf .len (.cons (.var 2) .nil)) (.int 0)) (.cmp .gt (.bin .mod (.bin .fdiv (.var 3) (.int 7)) (.int 9)) (.int 5))) (.cons (.assign 7 (.sub (.var 2) (.bin .mod (.bin .fdiv (.var 3) (.int 63)) (.bf .len (.cons (.var 2) .nil))))) .nil) .nil) (.cons (.assign 9 (.sub (.list (.cons .none (.cons (.int 0) (.cons (.bin .mod (.bin .fdiv (.var 3) (.int 13)) (.int 1000000001)) (.cons (.int 1000000000) (.cons (.int 1000000001) (.cons (.neg (.int 1)) (.cons (.bool true) (.cons (.str "2") .nil))))))))) (.bin .mod (.bin .fdiv (.var 3) (.int 11)) (.int 8)))) (.cons (.ite (.cmp .eq (.bin .mod (.bin .fdiv (.var 3) (.int 3)) (.int 7)) (.int 6)) (.cons (.ite (.not (.call 18 (.cons (.call 15 (.cons (.var 0) (.cons (.int 0) (.cons (.var 7) (.cons .none .nil))))) (.cons (.call 17 (.cons (.var 1) (.cons (.var 2) (.cons (.int 0) (.cons (.var 7) (.cons .none .nil)))))) .nil)))) (.cons (.ret (.some (.bool false))) .nil) .nil) (.cons (.assign 4 (.int 0)) (.cons (.assign 9 (.bin .mod (.bin .fdiv (.var 3) (.int 13)) (.int 1000000001))) .nil))) .nil) (.cons (.assign 10 (.call 17 (.cons (.var 1) (.cons (.var 2) (.cons (.var 4) (.cons (.var 7) (.cons (.var 9) .nil))))))) (.cons (.ite (.not (.call 18 (.cons (.call 15 (.cons (.var 0) (.cons (.var 4) (.cons (.var 7) (.cons (.var 9) .nil))))) (.cons (.var 10) .nil)))) (.cons (.ret (.some (.bool false))) .nil) .nil) (.cons (.expr (.bm (.umeth (.var 0) 7 .nil) .append (.cons (.tup (.cons (.int 0) (.cons (.int 0) .nil))) .nil))) (.cons (.ret (.some (.and (.call 7 (.cons (.umeth (.var 0) 7 .nil) (.cons (.bf .sorted (.cons (.var 2) .nil)) .nil))) (.cmp .eq (.umeth (.var 0) 8 .nil) (.var 1))))) .nil))))))))))) [some (.loc o), some (.loc lr), some (.loc ld), some (.int n), some (.int (Int.fmod n 5)), none, none, none, none, none, none] H _ _ _
  rw [show Int.fmod n 5 = (k : Int) from hk]
  refine wps_asg (fun v K => ∃ i, v = .int i ∧ K = H) ?_ ?_
  · refine ⟨by decide, ?_⟩
    show Wp (bfV .len [.loc lr]) H _ _
    rw [wv_len_loc G.top, len_rows x.og (l := 0)]
    exact ⟨by exact o269, _, rfl, rfl⟩
  rintro _ H ⟨i5, rfl, rfl⟩
  refine wps_asg (fun v K => ∃ i, v = .int i ∧ K = H) ?_ ?_
  · refine ⟨by decide, ?_⟩
    show Wp (subV (.loc lr) (.int 0)) H (fun v H' => Wp (bfV .len [v]) H' _ _) _
    rw [wv_list0 F.hS x.og G]
    exact ⟨by exact o269, _, rfl, rfl⟩
  rintro _ H ⟨i6, rfl, rfl⟩
  clear G
  refine dd_some F x fun K1 v v8 e1 kn1 => ?_
  refine dd_drain (x.ext e1) kn1 fun v kn2 => ?_
  refine dd_h fun K2 h e2 kh => ?_
  refine dd_stone F lk ((x.ext e1).ext e2) (kn2.keep (Keep.ext e2)) kh (by exact o270 hN) fun K3 g3 ks3 k' h' lk' kh' k3 x3 => ?_
  exact dd_rest F lk' x3 ((kn2.keep (Keep.ext e2)).keep k3) kh' (by exact o271 hN) fun K4 g4 ks4 k4 x4 => ⟨rfl, (Keep.ext (e1.trans e2)).trans (k3.trans k4), g4, ks4, x4⟩
end
end Mine.Pure
-- part L5L
namespace Mine.Pure
open PySem
theorem W.keep {P P' Q : Nat → Prop} {B : Nat} {H K : Hp} {o lr ld r c N : Nat} {g : List (List Val)} {ks : List Key} (x : W P P' B H o lr ld r c N g ks) (k : Keep Q H K) (d1 : ∀ m, PQ P P' m → ¬ Q m) : W P P' B K o lr ld r c N g ks :=
  ⟨x.la.keep x.og (fun m h => d1 m (.inl h)) k, x.rw'.keep x.og (fun m h => d1 m (.inr h)) k, x.og, Nat.le_trans x.bd k.len⟩
theorem count_get : ∀ (zs : List Val) (n k : Nat) (x : Val), (countUp n zs)[k]? = some x → ∃ z, zs[k]? = some z ∧ x = .tup [.int ((n + k : Nat) : Int), z]
  | [], n, k, x, h => by cases h
  | z :: zs, n, 0, x, h => by cases h; exact ⟨z, rfl, rfl⟩
  | z :: zs, n, k + 1, x, h => by
    refine ex1 (count_get zs (n + 1) k x h) fun y zz => aNd2 zz fun h1 h2 => ?_
    exact ⟨y, h1, by rw [h2, show n + 1 + k = n + (k + 1) by exact o150]⟩
theorem count_len : ∀ (zs : List Val) (n : Nat), (countUp n zs).length = zs.length
  | [], _ => rfl
  | _ :: zs, n => congrArg (· + 1) (count_len zs (n + 1))
section
variable {T : Tab} {Φ : Funs} {Γ : Env'} {H : Hp} {Q : Val → Hp → Prop} {E : Nat → Hp → Prop} {d : Nat} {QS : Env' → Hp → Prop} {R : Val → Hp → Prop} {ES : Nat → Env' → Hp → Prop} {o1 o2 r c N B l1 l2 m1 m2 : Nat} {g g1 g2 : List (List Val)} {P1 P2 Q1 Q2 : Nat → Prop} {ks ks1 ks2 : List Key}
theorem neg_int (i : Int) : wpE T Φ (.neg (.int i)) Γ H Q E = Q (.int (-i)) H := rfl
noncomputable abbrev Γ7 (ns : List Int) (l1 l2 m1 m2 o1 o2 : Nat) (a7 a8 : Option Val) : Env' := [some (.script ns), some (.loc l1), some (.loc l2), some (.loc m1), some (.loc m2), some (.loc o1), some (.loc o2), a7, a8]
inductive Two (P1 Q1 P2 Q2 : Nat → Prop) (B r c : Nat) (ns : List Int) (l1 l2 m1 m2 o1 o2 : Nat) (lz : Nat) (zs : List Val) (N : Nat) : Nat → Env' → Hp → Prop
  | mk {k : Nat} {K : Hp} {g1 g2 : List (List Val)} {ks1 ks2 : List Key} (a7 a8 : Option Val) (x1 : W P1 Q1 B K o1 l1 m1 r c (N + 2 * k) g1 ks1) (x2 : W P2 Q2 B K o2 l2 m2 r c (N + 2 * k) g2 ks2) (z : K[lz]? = some (.list zs)) : Two P1 Q1 P2 Q2 B r c ns l1 l2 m1 m2 o1 o2 lz zs N k (Γ7 ns l1 l2 m1 m2 o1 o2 a7 a8) K
theorem lw_turn {ns : List Int} {lz k : Nat} {zs : List Val} {n : Int} (F1 : Fix P1 Q1 B r c) (F2 : Fix P2 Q2 B r c) (dis : ∀ m, PQ P1 Q1 m → ¬ PQ P2 Q2 m) (hz : B ≤ lz) (hN : N + 2 * k + 2 < 1000) {a7 a8 : Option Val}
    (x1 : W P1 Q1 B H o1 l1 m1 r c (N + 2 * k) g1 ks1) (x2 : W P2 Q2 B H o2 l2 m2 r c (N + 2 * k) g2 ks2) (z : H[lz]? = some (.list zs)) :
    wpSs T_05 (callF T_05 (d + 7)) (.cons (.ite (.cmp .lt (.bin .mod (.var 7) (.int 3)) (.int 2)) (.cons (.ite (.not (.call 19 (.cons (.var 5) (.cons (.var 1) (.cons (.var 3) (.cons (.bin .add (.var 8) (.bin .mul (.int 11) (.var 7))) .nil)))))) (.cons (.ret (.some (.bool false))) .nil) .nil) .nil) (.cons (.ite (.not (.call 19 (.cons (.var 6) (.cons (.var 2) (.cons (.var 4) (.cons (.var 8) .nil)))))) (.cons (.ret (.some (.bool false))) .nil) .nil) .nil)) .nil) (Γ7 ns l1 l2 m1 m2 o1 o2 (some (.int (k : Int))) (some (.int n))) H (Two P1 Q1 P2 Q2 B r c ns l1 l2 m1 m2 o1 o2 lz zs N (k + 1)) R ES := by
  have e2 : N + 2 * (k + 1) = N + 2 * k + 2 := by exact o272
  have nz1 : ¬ PQ P1 Q1 lz := fun h => by have := F1.lt _ h; exact o106 this hz
  have nz2 : ¬ PQ P2 Q2 lz := fun h => by have := F2.lt _ h; exact o106 this hz
  rw [wps_cons, wps_ite]
  refine ⟨by decide, ?_⟩
  show brB (decide (Int.fmod (k : Int) 3 < 2)) _ _
  refine brB_split (fun _ => ?_) fun _ => ?_
  · rw [wps_cons]
    show wpS T_05 (callF T_05 (d + 7)) (.ite (.not (.call 19 (.cons (.var 5) (.cons (.var 1) (.cons (.var 3) (.cons (.bin .add (.var 8) (.bin .mul (.int 11) (.var 7))) .nil)))))) (.cons (.ret (.some (.bool false))) .nil) .nil) (Γ7 ns l1 l2 m1 m2 o1 o2 (some (.int (k : Int))) (some (.int n))) H _ R ES
    rw [wps_ite, wp_not, wp_callE]
    refine ⟨rfl, ?_⟩
    refine Wp.then (l05_deed (d := d) F1 x1 hN _) ?_
    intro _ K zz
    refine aNd3 zz fun zr0 kK zz => ex2 zz fun g' ks' y => ?_; subst zr0
    exact ⟨_, _, e2 ▸ y, e2 ▸ (x2.keep kK fun m h h' => dis m h' h).le (Nat.le_add_right _ 2), kK.get _ _ nz1 z⟩
  · rw [wps_cons]
    show wpS T_05 (callF T_05 (d + 7)) (.ite (.not (.call 19 (.cons (.var 6) (.cons (.var 2) (.cons (.var 4) (.cons (.var 8) .nil)))))) (.cons (.ret (.some (.bool false))) .nil) .nil) (Γ7 ns l1 l2 m1 m2 o1 o2 (some (.int (k : Int))) (some (.int n))) H _ R ES
    rw [wps_ite, wp_not, wp_callE]
    refine Wp.then (l05_deed (d := d) F2 x2 hN n) ?_
    intro _ K zz
    refine aNd3 zz fun zr0 kK zz => ex2 zz fun g' ks' y => ?_; subst zr0
    exact ⟨_, _, e2 ▸ (x1.keep kK fun m h h' => dis m h h').le (Nat.le_add_right _ 2), e2 ▸ y, kK.get _ _ nz2 z⟩
theorem lw_end {ns : List Int} {lz : Nat} {zs : List Val} {k : Nat} (F1 : Fix P1 Q1 B r c) (F2 : Fix P2 Q2 B r c) (x : Two P1 Q1 P2 Q2 B r c ns l1 l2 m1 m2 o1 o2 lz zs N k Γ H) (q : ∀ K, R (.bool true) K) : wpSs T_05 (callF T_05 (d + 7)) (.cons (.ite (.or (.not (.call 7 (.cons (.umeth (.var 6) 7 .nil) (.cons (.bf .sorted (.cons (.var 4) .nil)) .nil)))) (.cmp .ne (.umeth (.var 6) 8 .nil) (.var 2))) (.cons (.ret (.some (.bool false))) .nil) .nil) (.cons (.ret (.some (.and (.call 7 (.cons (.umeth (.var 5) 7 .nil) (.cons (.bf .sorted (.cons (.var 3) .nil)) .nil))) (.cmp .eq (.umeth (.var 5) 8 .nil) (.var 1))))) .nil)) Γ H QS R ES := by
  obtain ⟨a7, a8, x1, x2, z⟩ := x
  refine wps_no (fun K => Ext H K) ?_ ?_
  · rw [wp_or, wp_not]
    refine wpE_then (dd_same (d := d + 1) F2 x2 rfl rfl) ?_
    rintro _ K ⟨rfl, e⟩
    rw [asBool_bool, asBool_bool, brB_not, brB_true]
    refine wpE_then (dd_heights (d := d + 1) F2 (x2.ext e) rfl rfl).2 ?_
    rintro _ K' ⟨rfl, e'⟩
    exact ⟨rfl, e.trans e'⟩
  intro K e
  rw [wps_cons, wps_ret, wp_oSome, wp_and]
  refine wpE_then (dd_same (d := d + 1) F1 (x1.ext e) rfl rfl) ?_
  rintro _ K1 ⟨rfl, e1⟩
  rw [asBool_bool, brB_true]
  refine wpE_then (dd_heights (d := d + 1) F1 ((x1.ext e).ext e1) rfl rfl).1 ?_
  rintro _ K2 ⟨rfl, _⟩
  exact q K2
theorem lw_turns {ns : List Int} (F1 : Fix P1 Q1 B r c) (F2 : Fix P2 Q2 B r c) (dis : ∀ m, PQ P1 Q1 m → ¬ PQ P2 Q2 m) (hN : N ≤ 100) (x1 : W P1 Q1 B H o1 l1 m1 r c N g1 ks1) (x2 : W P2 Q2 B H o2 l2 m2 r c N g2 ks2) (q : ∀ K, R (.bool true) K) :
    wpSs T_05 (callF T_05 (d + 7)) (.cons (.eachEnum 7 8 (.slice (.var 0) (.some (.neg (.int 20))) .none) (.cons (.ite (.cmp .lt (.bin .mod (.var 7) (.int 3)) (.int 2)) (.cons (.ite (.not (.call 19 (.cons (.var 5) (.cons (.var 1) (.cons (.var 3) (.cons (.bin .add (.var 8) (.bin .mul (.int 11) (.var 7))) .nil)))))) (.cons (.ret (.some (.bool false))) .nil) .nil) .nil) (.cons (.ite (.not (.call 19 (.cons (.var 6) (.cons (.var 2) (.cons (.var 4) (.cons (.var 8) .nil)))))) (.cons (.ret (.some (.bool false))) .nil) .nil) .nil)) .nil)) (.cons (.ite (.or (.not (.call 7 (.cons (.umeth (.var 6) 7 .nil) (.cons (.bf .sorted (.cons (.var 4) .nil)) .nil)))) (.cmp .ne (.umeth (.var 6) 8 .nil) (.var 2))) (.cons (.ret (.some (.bool false))) .nil) .nil) (.cons (.ret (.some (.and (.call 7 (.cons (.umeth (.var 5) 7 .nil) (.cons (.bf .sorted (.cons (.var 3) .nil)) .nil))) (.cmp .eq (.umeth (.var 5) 8 .nil) (.var 1))))) .nil))) (Γ7 ns l1 l2 m1 m2 o1 o2 none none) H QS R ES := by
  have e0 : Ext H (H ++ [HObj.list (cut (true, ns.length - 20) (ns.map Val.int))]) := ⟨_, rfl⟩
  have len : (cut (true, ns.length - 20) (ns.map Val.int)).length ≤ 20 := by
    show ((ns.map Val.int).drop (ns.length - 20)).length ≤ 20
    rw [List.length_drop, List.length_map]; exact o273
  have inz : ∀ (k : Nat) z, (cut (true, ns.length - 20) (ns.map Val.int))[k]? = some z → ∃ n, z = .int n := fun k z h => by
    have h : ((ns.map Val.int).drop (ns.length - 20))[k]? = some z := h
    rw [List.getElem?_drop, List.getElem?_map] at h
    cases e : ns[ns.length - 20 + k]? with
    | none => rw [e] at h; cases h
    | some n => rw [e] at h; cases h; exact ⟨n, rfl⟩
  refine wps_seq (Two P1 Q1 P2 Q2 B r c ns l1 l2 m1 m2 o1 o2 H.length (cut (true, ns.length - 20) (ns.map Val.int)) N (cut (true, ns.length - 20) (ns.map Val.int)).length) ?_ fun Γ K h => lw_end F1 F2 h q
  apply wps_eachEnum
  rw [wp_slice, wp_var, getV_zero, wp_oSome, neg_int, wp_oNone]
  have sl : sliceV (.script ns) (.int (-20)) .none H = .ok (.loc H.length) (H ++ [.list (cut (true, ns.length - 20) (ns.map Val.int))]) := by
    show Res.ok (Val.loc H.length) (H ++ [HObj.list (cut (true, (ns.map Val.int).length - 20) (ns.map Val.int))]) = _
    rw [List.length_map]
  refine Wp.of_eq sl ?_
  clear sl
  generalize cut (true, ns.length - 20) (ns.map Val.int) = zs at *
  rw [listOf_list (get_new H _)]
  refine wps_eachN (Two P1 Q1 P2 Q2 B r c ns l1 l2 m1 m2 o1 o2 H.length zs N) ⟨_, _, x1.ext e0, x2.ext e0, get_new H _⟩ (fun Γ K h => by rw [count_len] at h; exact h) ?_ ?_
  · intro k Γ K _ h
    obtain ⟨_, _, _, _, z⟩ := h
    exact chk_list z
  · intro k x Γ K hx h
    refine ex1 (count_get _ _ _ _ hx) fun y zz => aNd2 zz fun hy zr2 => ?_; subst zr2
    obtain ⟨n, rfl⟩ := inz k y hy
    have lk : k < zs.length := (List.getElem?_eq_some_iff.mp hy).1
    obtain ⟨a7, a8, y1, y2, z⟩ := h
    refine ⟨Γ7 ns l1 l2 m1 m2 o1 o2 (some (.int (k : Int))) (some (.int n)), by rw [Nat.zero_add]; rfl, ?_⟩
    exact lw_turn F1 F2 dis x1.bd (by exact o274 lk hN len) (a7 := none) (a8 := none) y1 y2 z
end
end Mine.Pure
-- part L5M
namespace Mine.Pure
open PySem
section
variable {H : Hp} {o lr ld r c N B : Nat} {g : List (List Val)} {ks : List Key}
theorem ld_of {H K : Hp} {lg b ls : Nat} {es : List (Key × Val)} (og : OkG g r c) (L : LandAt K o r c lg b 1 ls g es) (hk : ∀ k, inD es (valOf k) = true ↔ k ∈ ks) (un : Uniq es) (le : es.length ≤ N) (h1 : H.length ≤ o) (h2 : H.length ≤ lg) (h3 : H.length ≤ b) (h4 : H.length ≤ ls) : Ld (fun m => H.length ≤ m ∧ m < K.length) K o r c g (memS ks) N := by
  refine ex1 L.inst fun fs zz => aNd2 zz fun f0 _ => ?_
  refine ⟨L, ⟨h1, lt_of_get f0⟩, ⟨h2, lt_of_get L.grid.top⟩, ⟨h4, lt_of_get L.sinks⟩, fun i hi => ⟨by exact o275 h3, lt_of_get (L.grid.row i _ (List.getElem?_eq_getElem (by rw [og.len]; exact hi)))⟩, fun k => ?_, le, un⟩
  show _ = decide (k ∈ ks)
  rw [Bool.eq_iff_iff, hk, decide_eq_true_iff]
theorem law_05w (ns : List Int) : Wp (callF T_05 20 20 [.script ns]) [] (fun v _ => v = .bool true) NoE := by
  rw [wp_call (d := 19) (g := f20_05) rfl rfl, f20_05]
  refine wps_asg (fun v H' => ∃ r c g l, v = .loc l ∧ OkS r c ∧ r * c ≤ 63 ∧ OkG g r c ∧ GAt H' l (l + 2) 2 g) (l05_grid (d := 16) ns) ?_
  intro _ H1 zz
  refine ex4 zz fun r c g l zz => aNd5 zz fun zr4 hS rc og G1 => ?_; subst zr4
  have hS' := hS
  unfold OkS at hS'
  refine wps_asg (fun v K => v = .loc (H1.length + r) ∧ Ext H1 K ∧ GAt K (H1.length + r) H1.length 1 g ∧ K.length = H1.length + r + 1) ?_ ?_
  · refine wp_copy (l := l) (b := l + 2) (s := 2) (g := g) rfl G1 (by rw [og.len]; show r < 16777216; exact o238 hS') ⟨rfl, rfl⟩ ?_
    intro K e G hK
    rw [og.len] at G hK ⊢
    exact ⟨rfl, e, G, hK⟩
  intro _ H2 zz
  refine aNd4 zz fun zr0 e2 G2 len2 => ?_; subst zr0
  refine wps_asg _ (l05_ldrains (d := 17) ns hS og (G1.ext e2)) ?_
  intro _ H3 zz
  refine ex3 zz fun m1 n e zz => aNd4 zz fun zr3 hm1 e3 at1 => ?_; subst zr3
  refine wps_asg (fun v K => v = .loc H3.length ∧ K = H3 ++ [.list (([] : List Key).map valOf)]) ⟨rfl, rfl⟩ ?_
  rintro _ _ ⟨rfl, rfl⟩
  have e4 : Ext H3 (H3 ++ [.list (([] : List Key).map valOf)]) := ⟨_, rfl⟩
  have at2 := get_new H3 (.list (([] : List Key).map valOf))
  have len4 : (H3 ++ [HObj.list (([] : List Key).map valOf)]).length = H3.length + 1 := by rw [List.length_append]; rfl
  generalize H3 ++ [HObj.list (([] : List Key).map valOf)] = H4 at *
  have nd1 : ((keys r c).filter (dpick g r c n e)).Nodup := (keys_nodup r c).sublist List.filter_sublist
  have in1 : ∀ k ∈ (keys r c).filter (dpick g r c n e), inR r c k = true := fun k hk => mem_keys.mp (List.mem_filter.mp hk).1
  have hg1 : ∀ k ∈ (keys r c).filter (dpick g r c n e), ∃ a, hgt g r c k = some a := fun k hk => Option.isSome_iff_exists.mp (Bool.and_eq_true _ _ |>.mp (List.mem_filter.mp hk).2).1
  have cn1 := keys_count nd1 in1 rc
  generalize (keys r c).filter (dpick g r c n e) = ks at *
  have lt1 := lt_of_get at1
  have r1 : ∀ i, i < r → l + 2 + 2 * i < H1.length := fun i hi => lt_of_get (G1.row i _ (List.getElem?_eq_getElem (by rw [og.len]; exact hi)))
  have l1 := lt_of_get G1.top
  refine wps_asg _ (l05_land (d := 14) hS og ((G1.ext e2).ext (e3.trans e4)) (e4.get at1) hg1 (by exact o264 cn1)) ?_
  intro _ H5 zz
  refine ex5 zz fun o1 lg1 b1 ls1 es1 zz => aNd10 zz fun zr5 e5 L1 hk1 un1 le1 p1 p2 p3 p4 => ?_; subst zr5
  have la1 := ld_of og L1 hk1 un1 (Nat.le_trans le1 cn1) p1 p2 p3 p4
  refine wps_asg (fun v K => ∃ o2, v = .loc o2 ∧ Ext H5 K ∧ Ld (fun m => H5.length ≤ m ∧ m < K.length) K o2 r c g (memS []) 63) ?_ ?_
  · rw [wp_callE]
    show Wp (callF T_05 19 13 [.loc l, .loc H5.length]) (H5 ++ [.list (([] : List Key).map valOf)]) _ _
    have e6 : Ext H5 (H5 ++ [.list (([] : List Key).map valOf)]) := ⟨_, rfl⟩
    refine Wp.then (l05_land (d := 14) hS og (((G1.ext e2).ext (e3.trans e4)).ext (e5.trans e6)) (get_new H5 _) (fun k hk => by cases hk) (by decide)) ?_
    intro _ K zz
    refine ex5 zz fun o2 lg2 b2 ls2 es2 zz => aNd10 zz fun zr5 e7 L2 hk2 un2 le2 q1 q2 q3 q4 => ?_; subst zr5
    have le := e6.len
    exact ⟨o2, rfl, e6.trans e7, ld_of og L2 hk2 un2 (Nat.le_trans le2 (Nat.zero_le _)) (Nat.le_trans le q1) (Nat.le_trans le q2) (Nat.le_trans le q3) (Nat.le_trans le q4)⟩
  intro _ H6 zz
  refine ex1 zz fun o2 zz => aNd3 zz fun zr1 e6 la2 => ?_; subst zr1
  clear L1 hk1 un1 le1 p1 p2 p3 p4 hg1
  have n1 := e2.len
  have n2 := e3.len
  have n3 := e5.len
  have n4 := e6.len
  have F1 : Fix (fun m => H4.length ≤ m ∧ m < H5.length) (fun m => m < H1.length ∨ (H2.length ≤ m ∧ m < H3.length)) H6.length r c := ⟨hS, rc, fun m h h' => by exact o276 hS' h' h lt1 len2 len4 hm1, fun m h => by exact o277 h hS' lt1 len2 len4 hm1 n3 n4⟩
  have F2 : Fix (fun m => H5.length ≤ m ∧ m < H6.length) (fun m => (H1.length ≤ m ∧ m < H2.length) ∨ (H3.length ≤ m ∧ m < H4.length)) H6.length r c := ⟨hS, rc, fun m h h' => by exact o278 h' h lt1 len4 hm1 n3, fun m h => by exact o279 h lt1 len4 hm1 n3 n4⟩
  have eA : Ext H2 H6 := e3.trans (e4.trans (e5.trans e6))
  have eB : Ext H3 H6 := e4.trans (e5.trans e6)
  have w1 : W (fun m => H4.length ≤ m ∧ m < H5.length) (fun m => m < H1.length ∨ (H2.length ≤ m ∧ m < H3.length)) H6.length H6 o1 l m1 r c 63 g ks :=
    ⟨la1.ext og e6, ⟨(G1.ext e2).ext eA, by decide, .inl l1, fun i hi => .inl (r1 i hi), eB.get at1, .inr ⟨hm1, lt1⟩, nd1, in1⟩, og, Nat.le_refl _⟩
  have w2 : W (fun m => H5.length ≤ m ∧ m < H6.length) (fun m => (H1.length ≤ m ∧ m < H2.length) ∨ (H3.length ≤ m ∧ m < H4.length)) H6.length H6 o2 (H1.length + r) H3.length r c 63 g [] :=
    ⟨la2, ⟨G2.ext eA, Nat.le_refl 1, .inl ⟨by exact o280 hS' len2, by exact o281 len2⟩, fun i hi => .inl ⟨by exact o282, by exact o283 hi len2⟩, (e5.trans e6).get at2, .inr ⟨Nat.le_refl _, by exact o284 len4⟩, .nil, fun k hk => by cases hk⟩, og, Nat.le_refl _⟩
  exact lw_turns (d := 12) F1 F2 (fun m h h' => by unfold PQ at h h'; exact o285 h' h hS' lt1 len2 len4 hm1 n3) (by decide) w1 w2 fun _ => rfl
theorem law_05 (ns : List Int) (_ : ns.length ≤ 63) : ∃ H', callF T_05 20 20 [.script ns] [] = .ok (.bool true) H' := by
  refine ex2 ((law_05w ns).get) fun v H' zz => aNd2 zz fun e hr0 => ?_; refine hr0 ▸ ?_
  exact ⟨H', e⟩
end
end Mine.Pure
-- part END
namespace Mine
open PySem PySem.W PySem.Calls
noncomputable def headAll (t : Addr → Option Obj) (N : Names) (T : Tab) (cls : List Value) (attrs : List Str) (fns : List Addr) (nss : List (List Str)) : Bool :=
  headOk t N T cls fns nss && clssAt t N T attrs fns 0 cls && attrsOk N attrs && excsOk t T cls && (t sysModules).isSome
noncomputable def fns_05 : List Addr := [21, 28, 35, 127, 134, 212, 219, 226, 233, 240, 247, 252, 259, 264, 271, 278, 285, 292, 299, 306, 311, 146, 153, 160, 167, 174, 181, 188, 193, 198]
noncomputable def q_05 : Program := view PySem.Challenge.pw_uf020016_05 [PySem.Challenge.pw_uf020016_05.main.body.length - 1]
noncomputable def loose_05 : List Str := (PySem.Challenge.pw_uf020016_05.main.scope.names.map (·.1)).filter (· != "law")
set_option maxRecDepth 100000
set_option maxHeartbeats 0
theorem left_05 : LeftO PySem.Challenge.pw_uf020016_05 q_05 loose_05 (fun s => recOk [] s) (fun s => headAll s.heap.get? N_05 T_05 [.ref 45, .ref 58, .ref 70, .ref 82, .ref 94, .ref 106, .ref 118, .ref 201, .type "ValueError"] ["rows", "columns", "grid", "sinks"] fns_05 V_05) (fun _ => true) 9000 true := by
  refine left_of (M := 8000) (by kernel_rfl) (by kernel_rfl) (fun s => by kernel_rfl) (by kernel_rfl) ?_
  intro w os
  rw [PySem.W.Fast.te4187177175401517315]
  kernel_rfl
theorem said_05 : PySem.Challenge.rw_uf020016_05.wellSaid = true := by
  rw [PySem.W.Fast.te9446332074065402090]
  kernel_rfl
noncomputable def def_05 : DefRec × List (Str × Expr) := (defOf q_05 "law").get (by kernel_rfl)
theorem hdef_05 : defOf q_05 "law" = some (def_05.1, def_05.2) := by kernel_rfl
theorem hp_05 : PySem.Challenge.pw_uf020016_05.theDef "law" = some (def_05.1.params, def_05.1.body, def_05.1.scope) := by kernel_rfl
theorem hk_05 : kwWritten? def_05.1.params.kwonlyargs def_05.1.params.kw_defaults = some def_05.2 := by kernel_rfl
end Mine
open PySem PySem.W PySem.W.X PySem.W.ZRun PyProof.Rows
set_option maxRecDepth 100000 in
set_option maxHeartbeats 0 in
theorem PySem.Challenge.cw_uf020016_05_holds : PySem.Challenge.rw_uf020016_05.Holds := by
  refine holds_law Mine.said_05 fun said => ?_
  refine holds_openX (q := Mine.q_05) (loose := Mine.loose_05) (Xt := fun s => recOk [] s) (XP := fun _ _ => True) (N := 9000) Mine.left_05 (fun _ _ => trivial) (fun _ _ _ h _ => h) Mine.hdef_05 Mine.hp_05 Mine.hk_05 (fun s e => recFacts_of e) rfl said (by decide +kernel) ⟨rfl, rfl, rfl, rfl, rfl, by decide +kernel⟩ ?hw ?hc
  case hw => exact ⟨[.list []], by decide +kernel, by decide +kernel⟩
  intro w s₀ s₁ mg mb G y fa o pm cd doc dV kV ho hd hcd hD hmg hg args vals as L hpre hlay hrd hwl hlo
  refine Ground.open G ?_
  intro T B D TE TW
  wrow_args hpre hlay hrd hwl hlo
  have y' : Mine.headAll s₀.heap.get? Mine.N_05 Mine.T_05 [.ref 45, .ref 58, .ref 70, .ref 82, .ref 94, .ref 106, .ref 118, .ref 201, .type "ValueError"] ["rows", "columns", "grid", "sinks"] Mine.fns_05 Mine.V_05 = true := y
  unfold Mine.headAll at y'
  simp only [Bool.and_eq_true] at y'
  obtain ⟨⟨⟨⟨y1, y2⟩, y3⟩, yx⟩, y4⟩ := y'
  refine Mine.finish (t := s₀.heap.get?) (N := Mine.N_05) (T := Mine.T_05) (cls := [.ref 45, .ref 58, .ref 70, .ref 82, .ref 94, .ref 106, .ref 118, .ref 201, .type "ValueError"]) (attrs := ["rows", "columns", "grid", "sinks"]) (fns := Mine.fns_05) (nss := Mine.V_05) (k := 20) (d := 20) L.keeps T.g T.b T.builtins T.nolimit y1 y2 y3 yx y4 (script_obj L (by assumption)) (by assumption) (by omega) hmg rfl ⟨rfl, by decide, by decide⟩ (Mine.Pure.law_05 _ (by omega)) ?_
  intro s' hk ho' hg'
  exact ⟨.inl ⟨_, .bool true, [], rfl, raisesW_false (by wrow_none_raised), .bool true, by wrow_post, fun _ => ⟨List.nodup_nil, fun a ha => by cases ha⟩⟩, .of_keep hk, ho', .of_eq (hg'.trans hg)⟩
