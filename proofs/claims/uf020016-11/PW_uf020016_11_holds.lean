import PyProof.Rows.All
import PyProof.StrBlock
import PyProof.StrBlockI
import PyProof.P3Statements
import PyProof.RaisesMany
import PyProof.ExcArgsOwn
import KE.KIsNot
import PyProof.DictRoadsH
import PyProof.DictKinds
import PyProof.InstLoad
import PyProof.ObjNew
import PyProof.Cells
import PyProof.WalksMore
import PyProof.Calls
import PyProof.DefCall
import PyProof.ListMulRoad
import PyProof.Rows.ListMul
import PyProof.ExcClass2
import PyProof.ExcBaseAll.ValueError
import PyProof.TupleKey
import PyProof.IsiSeqPairs
import PyProof.IsiNone
import PyProof.TupleOfSeq
import PyProof.ListRange
import PyProof.WalkInts
import PyProof.CallRoads
import PyProof.MeetsSeq
import PyProof.RulesTry
import PyProof.StrWalks
import PyProof.MinMaxWalk
import PyProof.RulesDelMore
import PyProof.CompFree
import PyProof.CompUse
import PyProof.LetGo
import PyProof.AssignAttr
import PyProof.InstStoreFacts
import PyProof.SliceMore
import PyProof.WalksPairs
import PyProof.ZipIter
import PyProof.EnumFor
import PyProof.ListIndex
import PyProof.RulesAs
import Open.FastRun
import Lean
import Wide.All
import OpenK.AllK
import Wide.FinOn
import Lean
import PySem.Challenge.RW_uf020016_11
set_option Elab.async false
set_option autoImplicit false
set_option genSizeOfSpec false
set_option genSizeOf false
set_option backward.match.sparseCases false
set_option genInjectivity false
set_option tactic.hygienic false
set_option bootstrap.genMatcherCode false
set_option linter.all false
set_option linter.unusedSimpArgs false
namespace Mine.Internal
theorem ex1 {α1:Sort _} {p:α1 -> Prop} {G:Prop} (h:∃ x1:α1,p x1) (k:(x1:α1) -> p x1 -> G):G:=h.elim fun x1 h=>k x1 h
theorem ex2 {α1 α2:Sort _} {p:α1 -> α2 -> Prop} {G:Prop} (h:∃ x1:α1,∃ x2:α2,p x1 x2) (k:(x1:α1) -> (x2:α2) -> p x1 x2 -> G):G:=h.elim fun x1 h=>h.elim fun x2 h=>k x1 x2 h
theorem ex3 {α1 α2 α3:Sort _} {p:α1 -> α2 -> α3 -> Prop} {G:Prop} (h:∃ x1:α1,∃ x2:α2,∃ x3:α3,p x1 x2 x3) (k:(x1:α1) -> (x2:α2) -> (x3:α3) -> p x1 x2 x3 -> G):G:=h.elim fun x1 h=>h.elim fun x2 h=>h.elim fun x3 h=>k x1 x2 x3 h
theorem ex4 {α1 α2 α3 α4:Sort _} {p:α1 -> α2 -> α3 -> α4 -> Prop} {G:Prop} (h:∃ x1:α1,∃ x2:α2,∃ x3:α3,∃ x4:α4,p x1 x2 x3 x4) (k:(x1:α1) -> (x2:α2) -> (x3:α3) -> (x4:α4) -> p x1 x2 x3 x4 -> G):G:=h.elim fun x1 h=>h.elim fun x2 h=>h.elim fun x3 h=>h.elim fun x4 h=>k x1 x2 x3 x4 h
theorem ex5 {α1 α2 α3 α4 α5:Sort _} {p:α1 -> α2 -> α3 -> α4 -> α5 -> Prop} {G:Prop} (h:∃ x1:α1,∃ x2:α2,∃ x3:α3,∃ x4:α4,∃ x5:α5,p x1 x2 x3 x4 x5) (k:(x1:α1) -> (x2:α2) -> (x3:α3) -> (x4:α4) -> (x5:α5) -> p x1 x2 x3 x4 x5 -> G):G:=h.elim fun x1 h=>h.elim fun x2 h=>h.elim fun x3 h=>h.elim fun x4 h=>h.elim fun x5 h=>k x1 x2 x3 x4 x5 h
theorem ex6 {α1 α2 α3 α4 α5 α6:Sort _} {p:α1 -> α2 -> α3 -> α4 -> α5 -> α6 -> Prop} {G:Prop} (h:∃ x1:α1,∃ x2:α2,∃ x3:α3,∃ x4:α4,∃ x5:α5,∃ x6:α6,p x1 x2 x3 x4 x5 x6) (k:(x1:α1) -> (x2:α2) -> (x3:α3) -> (x4:α4) -> (x5:α5) -> (x6:α6) -> p x1 x2 x3 x4 x5 x6 -> G):G:=h.elim fun x1 h=>h.elim fun x2 h=>h.elim fun x3 h=>h.elim fun x4 h=>h.elim fun x5 h=>h.elim fun x6 h=>k x1 x2 x3 x4 x5 x6 h
theorem ex7 {α1 α2 α3 α4 α5 α6 α7:Sort _} {p:α1 -> α2 -> α3 -> α4 -> α5 -> α6 -> α7 -> Prop} {G:Prop} (h:∃ x1:α1,∃ x2:α2,∃ x3:α3,∃ x4:α4,∃ x5:α5,∃ x6:α6,∃ x7:α7,p x1 x2 x3 x4 x5 x6 x7) (k:(x1:α1) -> (x2:α2) -> (x3:α3) -> (x4:α4) -> (x5:α5) -> (x6:α6) -> (x7:α7) -> p x1 x2 x3 x4 x5 x6 x7 -> G):G:=h.elim fun x1 h=>h.elim fun x2 h=>h.elim fun x3 h=>h.elim fun x4 h=>h.elim fun x5 h=>h.elim fun x6 h=>h.elim fun x7 h=>k x1 x2 x3 x4 x5 x6 x7 h
theorem V3 {α1 α2 α3 α4 α5 α6 α7 α8 α9 α10 α11 α12 α13 α14:Sort _} {p:α1 -> α2 -> α3 -> α4 -> α5 -> α6 -> α7 -> α8 -> α9 -> α10 -> α11 -> α12 -> α13 -> α14 -> Prop} {G:Prop} (h:∃ x1:α1,∃ x2:α2,∃ x3:α3,∃ x4:α4,∃ x5:α5,∃ x6:α6,∃ x7:α7,∃ x8:α8,∃ x9:α9,∃ x10:α10,∃ x11:α11,∃ x12:α12,∃ x13:α13,∃ x14:α14,p x1 x2 x3 x4 x5 x6 x7 x8 x9 x10 x11 x12 x13 x14) (k:(x1:α1) -> (x2:α2) -> (x3:α3) -> (x4:α4) -> (x5:α5) -> (x6:α6) -> (x7:α7) -> (x8:α8) -> (x9:α9) -> (x10:α10) -> (x11:α11) -> (x12:α12) -> (x13:α13) -> (x14:α14) -> p x1 x2 x3 x4 x5 x6 x7 x8 x9 x10 x11 x12 x13 x14 -> G):G:=h.elim fun x1 h=>h.elim fun x2 h=>h.elim fun x3 h=>h.elim fun x4 h=>h.elim fun x5 h=>h.elim fun x6 h=>h.elim fun x7 h=>h.elim fun x8 h=>h.elim fun x9 h=>h.elim fun x10 h=>h.elim fun x11 h=>h.elim fun x12 h=>h.elim fun x13 h=>h.elim fun x14 h=>k x1 x2 x3 x4 x5 x6 x7 x8 x9 x10 x11 x12 x13 x14 h
theorem Ad {p1 p2 G:Prop} (h:p1 /\ p2) (k:p1 -> p2 -> G):G:=k (h.1) (h.2)
theorem Av {p1 p2 p3 G:Prop} (h:p1 /\ p2 /\ p3) (k:p1 -> p2 -> p3 -> G):G:=k (h.1) (h.2.1) (h.2.2)
theorem Cg {p1 p2 p3 p4 G:Prop} (h:p1 /\ p2 /\ p3 /\ p4) (k:p1 -> p2 -> p3 -> p4 -> G):G:=k (h.1) (h.2.1) (h.2.2.1) (h.2.2.2)
theorem Fc {p1 p2 p3 p4 p5 G:Prop} (h:p1 /\ p2 /\ p3 /\ p4 /\ p5) (k:p1 -> p2 -> p3 -> p4 -> p5 -> G):G:=k (h.1) (h.2.1) (h.2.2.1) (h.2.2.2.1) (h.2.2.2.2)
theorem Lp {p1 p2 p3 p4 p5 p6 G:Prop} (h:p1 /\ p2 /\ p3 /\ p4 /\ p5 /\ p6) (k:p1 -> p2 -> p3 -> p4 -> p5 -> p6 -> G):G:=k (h.1) (h.2.1) (h.2.2.1) (h.2.2.2.1) (h.2.2.2.2.1) (h.2.2.2.2.2)
theorem Mu {p1 p2 p3 p4 p5 p6 p7 G:Prop} (h:p1 /\ p2 /\ p3 /\ p4 /\ p5 /\ p6 /\ p7) (k:p1 -> p2 -> p3 -> p4 -> p5 -> p6 -> p7 -> G):G:=k (h.1) (h.2.1) (h.2.2.1) (h.2.2.2.1) (h.2.2.2.2.1) (h.2.2.2.2.2.1) (h.2.2.2.2.2.2)
theorem Agx {p1 p2 p3 p4 p5 p6 p7 p8 G:Prop} (h:p1 /\ p2 /\ p3 /\ p4 /\ p5 /\ p6 /\ p7 /\ p8) (k:p1 -> p2 -> p3 -> p4 -> p5 -> p6 -> p7 -> p8 -> G):G:=k (h.1) (h.2.1) (h.2.2.1) (h.2.2.2.1) (h.2.2.2.2.1) (h.2.2.2.2.2.1) (h.2.2.2.2.2.2.1) (h.2.2.2.2.2.2.2)
theorem Z7 {p1 p2 p3 p4 p5 p6 p7 p8 p9 p10 G:Prop} (h:p1 /\ p2 /\ p3 /\ p4 /\ p5 /\ p6 /\ p7 /\ p8 /\ p9 /\ p10) (k:p1 -> p2 -> p3 -> p4 -> p5 -> p6 -> p7 -> p8 -> p9 -> p10 -> G):G:=k (h.1) (h.2.1) (h.2.2.1) (h.2.2.2.1) (h.2.2.2.2.1) (h.2.2.2.2.2.1) (h.2.2.2.2.2.2.1) (h.2.2.2.2.2.2.2.1) (h.2.2.2.2.2.2.2.2.1) (h.2.2.2.2.2.2.2.2.2)
theorem V4 {p1 p2 p3 p4 p5 p6 p7 p8 p9 p10 p11 G:Prop} (h:p1 /\ p2 /\ p3 /\ p4 /\ p5 /\ p6 /\ p7 /\ p8 /\ p9 /\ p10 /\ p11) (k:p1 -> p2 -> p3 -> p4 -> p5 -> p6 -> p7 -> p8 -> p9 -> p10 -> p11 -> G):G:=k (h.1) (h.2.1) (h.2.2.1) (h.2.2.2.1) (h.2.2.2.2.1) (h.2.2.2.2.2.1) (h.2.2.2.2.2.2.1) (h.2.2.2.2.2.2.2.1) (h.2.2.2.2.2.2.2.2.1) (h.2.2.2.2.2.2.2.2.2.1) (h.2.2.2.2.2.2.2.2.2.2)
theorem Afq {p1 p2 p3 p4 p5 p6 p7 p8 p9 p10 p11 p12 p13 p14 G:Prop} (h:p1 /\ p2 /\ p3 /\ p4 /\ p5 /\ p6 /\ p7 /\ p8 /\ p9 /\ p10 /\ p11 /\ p12 /\ p13 /\ p14) (k:p1 -> p2 -> p3 -> p4 -> p5 -> p6 -> p7 -> p8 -> p9 -> p10 -> p11 -> p12 -> p13 -> p14 -> G):G:=k (h.1) (h.2.1) (h.2.2.1) (h.2.2.2.1) (h.2.2.2.2.1) (h.2.2.2.2.2.1) (h.2.2.2.2.2.2.1) (h.2.2.2.2.2.2.2.1) (h.2.2.2.2.2.2.2.2.1) (h.2.2.2.2.2.2.2.2.2.1) (h.2.2.2.2.2.2.2.2.2.2.1) (h.2.2.2.2.2.2.2.2.2.2.2.1) (h.2.2.2.2.2.2.2.2.2.2.2.2.1) (h.2.2.2.2.2.2.2.2.2.2.2.2.2)
theorem Agy {a b c d:Nat} (h:a <= b+4) (k:c+1 <= d):a+5 * c < b+1+5 * d:=Nat.lt_of_lt_of_le (Nat.add_lt_add_right (Nat.lt_succ_of_le h) _) (Nat.le_trans (Nat.le_of_eq ((Nat.add_assoc b 5 _).trans (congrArg (b+·) (Nat.add_comm 5 _)))) (Nat.add_le_add (Nat.le_succ b) (Nat.mul_le_mul_left 5 k)))
theorem Aia {a b c d:Nat} (h:a <= b+4) (k:c+1 <= d):a+4 * c <= b+4 * d:=Nat.le_trans (Nat.add_le_add_right h _) (Nat.le_trans (Nat.le_of_eq ((Nat.add_assoc _ _ _).trans (congrArg (b+·) (Nat.add_comm _ _)))) (Nat.add_le_add_left (Nat.mul_le_mul_left 4 k) b))
theorem o1 {a0 a1:Nat} (_:a0 < (a1+1)) (_:¬ (a0 < a1)):a0=a1:=by lia
theorem o2 {a0 a1 a2:Nat} (_:((a0+(5 * a1))+150) < a2):((a0+(5 * a1))+147) < a2:=by lia
theorem o3 {a0 a1 a2:Nat} (h0:((a0+(20 * a1))+100) < a2):((a0+(20 * a1))+90) < a2:=Nat.lt_of_le_of_lt (Nat.add_le_add_left (by decide) _) h0
theorem o4 {x0:Int} (h0:¬ ((x0=(0:Int)) \/ (1073741824 <= (Int.natAbs x0)))):(Int.natAbs x0) < 1073741824:=Nat.not_le.mp fun z=>h0 (.inr z)
theorem o5 {a0 a1:Nat} (_:(a0+100) < a1):(a0+64) < a1:=by lia
theorem o6 {a0 a1:Nat} (_:(a0+100) < a1):((a0+1)+6) < a1:=by lia
theorem o7 {a0 a1:Nat} (h0:(a0+100) < a1):(a0+1) < a1:=Nat.lt_of_le_of_lt (Nat.add_le_add_left (by decide) a0) h0
theorem o8 {a0 a1:Nat} (_:(a0+10) < a1):(a0+6) < a1:=by lia
theorem o9 {a0 a1 a2:Nat} (_:((a0+20)+(a2+1)) < a1):a0 < a1:=by lia
theorem o10 {a0 a1 a2:Nat} (_:((a0+20)+(a2+1)) < a1):((a0+1)+10) < a1:=by lia
theorem o11 {a0 a1 a2:Nat} (_:((a0+20)+(a1+1)) < a2):(((a0+1)+20)+a1) < a2:=by lia
theorem o12 {a0 a1:Nat} (h0:(a0+100) < a1):((a0+20)+6) < a1:=Nat.lt_of_le_of_lt (Nat.add_le_add_left (by decide:26 <= 100) a0) h0
theorem o13 {x0:Int} (_:¬ ((0:Int) <= x0)):x0 < (0:Int):=by lia
theorem o14 {a0:Nat} {x0:Int} (h0:(0:Int) <= x0) (h1:(Int.toNat x0) < a0):x0 < ((a0:Nat):Int):=(Int.toNat_lt h0).mp h1
theorem o15 {a0:Nat} (_:a0 <= 20):a0 < 30:=by lia
theorem o16 {a0 a1 a2:Nat} (h0:a0=a2) (h1:a0 <= a1):(a0 - 1) <= a1:=Nat.le_trans (Nat.sub_le _ _) h1
theorem o17 {a0:Nat}:a0 <= ((a0 - 1)+1):=Nat.le_add_of_sub_le (Nat.le_refl _)
theorem o18 {a0:Nat} (_:a0 <= 1000):a0 <= 16777216:=by lia
theorem o19 {a0:Nat} (_:a0=6):1 < a0:=by grind
theorem o20 {a0:Nat} (h0:a0=11):3 < a0:=h0▸(by decide:3 < 11)
theorem o21 {a0 a1:Nat} (_:a0 < a1) (_:a0=a1):False:=by lia
theorem o22 {a0 a1 a2:Nat} (_:((a0+(5 * (a1+1)))+147) < a2):(((a0+1)+(5 * a1))+150) < a2:=by lia
theorem o23 {a0 a1 a2:Nat} (_:((a0+(20 * (a1+1)))+90) < a2):(((a0+3)+(20 * a1))+100) < a2:=by lia
theorem o24 {a0 a1 a2:Nat} (h0:(a0+a2)=a1):a0=(min a0 a1):=(Nat.min_eq_left (h0▸Nat.le_add_right _ _)).symm
theorem o25 {a0 a1 a2 a3:Nat} (_:(a0+a2)=a3) (_:¬ (a1 < a0)):a0 <= a1:=by lia
theorem o26 {a0 a1 a2:Nat} (h0:((a0+(5 * (a2+1)))+147) < a1):a0 < a1:=Nat.lt_of_le_of_lt (Nat.le_trans (Nat.le_add_right _ _) (Nat.le_add_right _ _)) h0
theorem o27 {a0:Nat} {x0:Int} (_:a0 < (Int.toNat x0)):(0:Int) < ((((Int.toNat x0):Nat):Int) - ((a0:Nat):Int)):=by lia
theorem o28 {a0:Nat}:(((a0+1):Nat):Int)=(((a0:Nat):Int)+(1:Int)):=by grind
theorem o29 {a0:Nat} {x0:Int}:((((Int.toNat x0):Nat):Int) - (((a0+1):Nat):Int))=(((((Int.toNat x0):Nat):Int) - ((a0:Nat):Int)) - (1:Int)):=by grind
theorem o30 {a0 a1 a2:Nat} (_:a2=a0) (_:a2 <= a1):a0 <= a1:=by lia
theorem o31 {a0:Nat} {x0:Int} (_:x0 <= ((a0:Nat):Int)):((((Int.toNat x0):Nat):Int) - ((a0:Nat):Int)) <= (0:Int):=by lia
theorem o32 {a0 a1:Nat} (_:¬ (a1 < a0)):a0 <= a1:=by grind
theorem o33 {a0 a1 a2:Nat} (h0:a1 < a0) (h1:a2=((a0+1) - a1)):((a0+1) - (a1+1)) < a2:=h1▸Nat.sub_lt_sub_left (Nat.lt_succ_of_lt h0) (Nat.lt_succ_self _)
theorem o34 {a0 a1:Nat} (h0:(a0 - a1)=0) (h1:¬ (a0 < a1)):a0=a1:=Nat.le_antisymm (Nat.le_of_sub_eq_zero h0) (Nat.not_lt.mp h1)
theorem o35 {a0 a1 a2:Nat} (_:a0=a2) (_:a1=a2):a0=a1:=by grind
theorem o36 {a0 a1 a2:Nat} (_:((a0+(5 * a1))+150) < a2):(((a0+1)+(5 * a1))+147) < a2:=by lia
theorem o37 {a0 a1 a2:Nat} (_:((a0+(20 * a1))+100) < a2):(((a0+1)+(20 * a1))+90) < a2:=by lia
theorem o38 {a0 a1:Nat}:(a0 - a1) <= a0:=Nat.sub_le _ _
theorem o39 {a0 a1:Nat}:(min a0 a1) <= a1:=Nat.min_le_right _ _
theorem o40 {x0:Int} (h0:¬ ((0:Int) <= x0)):1 <= (Int.natAbs x0):=Int.natAbs_pos.mpr fun e=>h0 (Int.le_of_eq e.symm)
theorem o41 {x0:Int} (h0:¬ ((0:Int) <= x0)):(- (((Int.natAbs x0):Nat):Int))=x0:=Int.neg_eq_comm.mp (Int.ofNat_natAbs_of_nonpos (Int.le_of_lt (Int.not_le.mp h0))).symm
theorem o42 {a0 a1 a2:Nat} (h0:((a0+(20 * a2))+100) < a1):(a0+100) < a1:=Nat.lt_of_le_of_lt (Nat.add_le_add_right (Nat.le_add_right _ _) _) h0
theorem o43 {a0 a1:Nat} (_:((a0:Nat):Int) < ((a1:Nat):Int)):a0 < a1:=by grind
theorem o44 {a0 a1 a2:Nat} (_:((a0+(20 * (a2+1)))+90) < a1):((a0+3)+100) < a1:=by lia
theorem o45 {a0 a1:Nat}:(a0+(a1+1))=((a0+1)+a1):=by grind
theorem o46 {a0:Nat} (_:a0 <= 63):a0 <= 16777216:=by lia
theorem o47 {a0 a1:Nat} (h0:a0 <= a1):(a0+(a1 - a0))=a1:=Nat.add_sub_of_le h0
theorem o48 {a0:Nat}:(0:Int) <= ((a0:Nat):Int):=by grind
theorem o49 {a0 a1:Nat} (_:a0 < a1):((a0:Nat):Int) < ((a1:Nat):Int):=by lia
theorem o50 {a0 a1:Nat} (h0:0=(a1 - a0)) (h1:a0 <= a1):a0=a1:=Nat.le_antisymm h1 (Nat.le_of_sub_eq_zero h0.symm)
theorem o51 {a0:Nat} (h0:0 < a0):((a0 - 1) / 2) < a0:=Nat.lt_of_le_of_lt (Nat.div_le_self _ _) (Nat.sub_lt h0 Nat.one_pos)
theorem o52 {a0:Nat} (_:0 < a0) (_:a0=0):False:=by lia
theorem o53 {a0 a1 a2:Nat} (_:a0 < (a1+1)) (_:a2 < a0) (_:a2=a1):False:=by lia
theorem o54 {a0 a1:Nat} (_:a0 < a1):¬ (a0=a1):=by grind
theorem o55 {a0 a1 a2 a3:Nat} (_:a2 < a1) (_:a0 < a2) (_:a3=a2):¬ (a0=a1):=by lia
theorem o56 {a0 a1 a2:Nat} (_:a0 < a1) (_:a2=a1):¬ (a0=a1):=by grind
theorem o57 {a0 a1 a2:Nat} (_:a0 < a1) (_:a2=a0):a0≠a1:=by grind
theorem o58 {a0 a1 a2:Nat} (_:a2 < a0) (_:a2=a1):¬ (a0=a1):=by grind
theorem o59 {a0 a1 a2:Nat} (_:a0 < a2) (_:a2 < a1):a0 < a1:=by grind
theorem o60 {a0:Nat} (_:0 < a0):0≠a0:=by grind
theorem o61 {a0 a1 a2 a3:Nat} (_:a2 < a1) (_:a2=a0) (_:a3=a1):¬ (a0=a1):=by grind
theorem o62 {a0 a1 a2 a3 a4:Nat} (h0:a2 < a3) (h1:a4 < a0) (h2:a2=a1) (h3:a4=a3):¬ (a0=a1):=fun e=>Nat.lt_asymm h1 (e▸h3▸h2▸h0)
theorem o63 {a0 a1 a2 a3:Nat} (_:a2 < a3) (_:a2=a1) (_:a0=a3):a0≠a1:=by grind
theorem o64 {x0 x1:Int} (_:x1 < x0):¬ (x0 < x1):=by lia
theorem o65 {x0 x1 x2:Int} (h0:¬ (x2 < x1)) (h1:¬ (x0 < x2)):¬ (x0 < x1):=fun h=>h1 (Int.lt_of_lt_of_le h (Int.not_lt.mp h0))
theorem o66 {x0 x1:Int} (h0:¬ (x0 < x1)) (h1:¬ (x1 < x0)):x0=x1:=Int.le_antisymm (Int.not_lt.mp h1) (Int.not_lt.mp h0)
theorem o67 {x0 x1:Int} (h0:¬ (x1 < x0)) (h1:¬ (x1=x0)):x0 < x1:=Int.lt_iff_le_and_ne.mpr ⟨Int.not_lt.mp h0,fun e=>h1 e.symm⟩
theorem o68 {a0:Nat} (_:a0 < 0):False:=by grind
theorem o69 {a0 a1 a2:Nat} (_:a2 < (a1+1)) (_:a0 < a2):a0 < a1:=by lia
theorem o70 {a0:Nat} (h0:0 < a0):(((a0:Nat):Int) - (1:Int))=(((a0 - 1):Nat):Int):=(Int.ofNat_sub h0).symm
theorem o71 {a0:Nat}:((((a0 - 1):Nat):Int) / (2:Int))=((((a0 - 1) / 2):Nat):Int):=by grind
theorem o72 {a0:Nat} (h0:0 < a0):(0:Int) <= ((a0:Nat):Int):=Int.natCast_nonneg _
theorem o73 {a0 a1:Nat} (_:a0 < 1000) (_:a1=16777216):a0 < a1:=by lia
theorem o74 {a0:Nat}:((((a0+1):Nat):Int) - (1:Int))=((a0:Nat):Int):=by grind
theorem o75 {a0:Nat} (_:((a0:Nat):Int) > (0:Int)):0 < a0:=by grind
theorem o76 {a0 a1 a2:Nat} (_:a2 < a1) (_:a0 < a2):a0 < a1:=by grind
theorem o77 {a0:Nat} (_:((a0:Nat):Int) > (0:Int)):(0:Int) <= ((a0:Nat):Int):=by lia
theorem o78 {a0:Nat} (_:¬ (((a0:Nat):Int) > (0:Int))):a0=0:=by lia
theorem o79 {a0 a1 a2:Nat} (_:a0 <= a1):a0 <= (a1+a2):=by lia
theorem o80 {a0 a1:Nat} (_:((2 * a0)+1) <= a1) (_:a1 < (((2 * a0)+1)+0)):False:=by lia
theorem o81 {a0 a1 a2:Nat} (h0:a0 < (((2 * a1)+1)+(a2+1))) (h1:¬ (a0=(((2 * a1)+1)+a2))):a0 < (((2 * a1)+1)+a2):=Nat.lt_of_le_of_ne (Nat.le_of_lt_succ h0) h1
theorem o82 {a0 a1:Nat} (_:a1 < 2):0 < (((2 * a0)+1)+a1):=by grind
theorem o83 {a0 a1:Nat} (h0:a1 < 2):(((((2 * a0)+1)+a1) - 1) / 2)=a0:=(congrArg (fun x=>(x - 1) / 2) (Nat.add_right_comm _ 1 a1)).trans ((Nat.mul_add_div Nat.two_pos a0 a1).trans (congrArg (a0+·) (Nat.div_eq_of_lt h0)))
theorem o84 {a0 a1:Nat} (h0:((a1 - 1) / 2)=a0) (h1:0 < a1):((2 * a0)+1) <= a1:=Nat.add_le_of_le_sub h1 (h0▸Nat.mul_div_le _ 2)
theorem o85 {a0 a1:Nat} (h0:((a0 - 1) / 2)=a1) (h1:0 < a0):a0 < (((2 * a1)+1)+2):=(Nat.sub_lt_iff_lt_add (c:=2 * a1+2) h1).mp (h0▸Nat.lt_mul_div_succ _ Nat.two_pos)
theorem o86 {a0 a1 a2:Nat} (_:(((((2 * a0)+1)+a1):Nat):Int) < ((a2:Nat):Int)):(((2 * a0)+1)+a1) < a2:=by lia
theorem o87 {a0 a1:Nat} (h0:a1 < 2):(0:Int) <= (((((2 * a0)+1)+a1):Nat):Int):=Int.natCast_nonneg _
theorem o88 {a0 a1 a2:Nat} (h0:(((2 * a0)+1)+a1) < a2) (h1:¬ ((((((2 * a0)+1)+a1):Nat):Int) < ((a2:Nat):Int))):False:=h1 (Int.ofNat_lt.mpr h0)
theorem o89 {a0:Nat}:(((2:Int) * ((a0:Nat):Int))+(1:Int))=(((((2 * a0)+1)+0):Nat):Int):=by grind
theorem o90 {a0:Nat}:(((2:Int) * ((a0:Nat):Int))+(2:Int))=(((((2 * a0)+1)+1):Nat):Int):=by grind
theorem o91 {a0 a1 a2:Nat} (h0:a1 < a2) (h1:a0=(a2 - a1)):0 < a0:=h1▸Nat.sub_pos_of_lt h0
theorem o92 {a0 a1 a2:Nat} (_:((a0:Nat):Int)=((a1:Nat):Int)) (_:a2 < a0) (_:a2=a1):False:=by lia
theorem o93 {a0 a1 a2 a3 a4:Nat} (h0:a3 < a0) (h1:a4 < a1) (h2:a1 < a0) (h3:a2=(a0 - a3)) (h4:a4=a3):(a0 - a1) < a2:=h3▸Nat.sub_lt_sub_left h0 (h4▸h1)
theorem o94 {a0:Nat}:¬ ((((a0+1):Nat):Int)=(0:Int)):=by omega
theorem o95 {a0:Nat}:(0:Int) < (((a0+1):Nat):Int):=by grind
theorem o96 {a0:Nat}:0 < (a0+1):=by grind
theorem o97 {a0 a1:Nat} (h0:((a1+1)+1) < 1000) (h1:a0=(a1+1)):a0 < 1000:=h1▸Nat.lt_of_succ_lt h0
theorem o98 {x0 x1:Int} (_:x0 < x1):x0 <= (x1 - (1:Int)):=by lia
theorem o99 {a0 a1:Nat} (_:¬ (((a1:Nat):Int) < ((a0:Nat):Int))):a0 <= a1:=by lia
theorem Agz {a0:Nat} (_:0 < a0):(0:Int) < ((a0:Nat):Int):=by lia
theorem Aib {x0:Int} (h0:(0:Int) <= x0):x0=(((Int.toNat x0):Nat):Int):=(Int.toNat_of_nonneg h0).symm
theorem Aic {a0:Nat} {x0:Int} (h0:(0:Int) <= x0) (h1:x0 < ((a0:Nat):Int)):(Int.toNat x0) < a0:=(Int.toNat_lt h0).mpr h1
theorem Aid {a0:Nat} (_:a0 < 3):(0:Int) <= ((a0:Nat):Int):=by grind
theorem Aie {a0:Nat} (_:a0 < 3):((a0:Nat):Int) <= (1000000000:Int):=by lia
theorem Aif {a0:Nat} (_:a0 < 12):(0:Int) <= ((a0:Nat):Int):=by grind
theorem Aig {a0:Nat} (_:a0 < 12):((a0:Nat):Int) <= (1000000000:Int):=by lia
theorem Aih {a0:Nat} (_:a0 < 1000000001):(0:Int) <= ((a0:Nat):Int):=by grind
theorem Aii {a0:Nat} (h0:a0 < 1000000001):((a0:Nat):Int) <= (1000000000:Int):=Int.ofNat_le.mpr (Nat.le_of_lt_succ h0)
theorem Aij {a0:Nat} (_:a0 < 2):(0:Int) <= ((1000000000:Int) - ((a0:Nat):Int)):=by lia
theorem Aik {a0:Nat} (_:a0 < 2):((1000000000:Int) - ((a0:Nat):Int)) <= (1000000000:Int):=by grind
theorem Ail {a0:Nat} (h0:a0 <= 900):((- (18446744073709551616:Int)) < ((a0:Nat):Int)) /\ (((a0:Nat):Int) < (18446744073709551616:Int)):=⟨Int.lt_of_lt_of_le (by decide) (Int.natCast_nonneg _),Int.lt_of_le_of_lt (Int.ofNat_le.mpr h0) (by decide)⟩
theorem Aim {a0:Nat}:(((a0:Nat):Int)+(3:Int))=(((a0+3):Nat):Int):=by grind
theorem Ain {a0 a1:Nat} (h0:(((a0:Nat):Int)+(3:Int)) < ((a1:Nat):Int)):(a0+3) < a1:=Int.ofNat_lt.mp h0
theorem Ag0 {a0 a1 a2:Nat} (_:a0=a2) (_:¬ (a1 < a0)):a0 <= a1:=by grind
theorem Ag1 {a0 a1 a2:Nat} (h0:(a0 - a2)=0) (h1:a2=a1) (h2:¬ (a0 < a2)):a0=a1:=h1▸Nat.le_antisymm (Nat.le_of_sub_eq_zero h0) (Nat.not_lt.mp h2)
theorem Aio {a0 a1 a2 a3:Nat} (_:a0=(a2+a3)):(a0+a1)=((a2+a1)+a3):=by grind
theorem Aip {a0 a1 a2:Nat}:(((a0+a1)+a2)+1)=(a0+(a1+(a2+1))):=by grind
theorem Aiq {a0:Nat} (_:a0 <= 1000):(- (1073741824:Int)) <= ((a0:Nat):Int):=by grind
theorem Air {a0:Nat} (_:a0 <= 1000):((a0:Nat):Int) <= (1073741824:Int):=by lia
theorem Ais {a0:Nat}:(Int.toNat ((a0:Nat):Int))=a0:=by grind
theorem Ag2 {a0 a1:Nat} (_:a0=a1):a0 <= a1:=by lia
theorem Ait {a0 a1 a2 a3 a4 a5:Nat} (_:a2=((a3+a4)+1)) (_:a5=a0) (_:a5 <= a1):a0 <= a1:=by grind
theorem Ag3 {a0:Nat} (_:a0 <= 30):((- (1073741824:Int)) <= ((a0:Nat):Int)) /\ (((a0:Nat):Int) <= (1073741824:Int)):=by lia
theorem Aiu {a0 a1:Nat} (_:((a0:Nat):Int) < ((a1:Nat):Int)) (_:a1 <= 30):a0 <= 30:=by lia
theorem Aiv {a0 a1 a2 a3:Nat} (h0:((a1:Nat):Int) < ((a3:Nat):Int)) (h1:a2=16777216) (h2:a0 <= (30 * 30)) (h3:a3 <= 30):(a0+a1) < a2:=h1▸Nat.lt_of_le_of_lt (Nat.add_le_add h2 (Nat.le_trans (Nat.le_of_lt (Int.ofNat_lt.mp h0)) h3)) (by decide)
theorem Ag4 {a0 a1:Nat} (_:((a0:Nat):Int) < ((a1:Nat):Int)):(a0+1) <= a1:=by grind
theorem Aiw {a0:Nat} (_:1 <= a0) (_:a0 <= 30):(1:Int) <= ((a0:Nat):Int):=by grind
theorem Aix {a0:Nat} (_:1 <= a0) (_:a0 <= 30):((a0:Nat):Int) <= (30:Int):=by lia
theorem Aiy {a0 a1 a2:Nat} (_:(1 <= a1) /\ ((a1 <= 30) /\ ((1 <= a0) /\ (a0 <= 30)))) (_:a2=a0):1 <= a0:=by lia
theorem Aiz {a0 a1 a2:Nat} (_:(1 <= a1) /\ ((a1 <= 30) /\ ((1 <= a0) /\ (a0 <= 30)))) (_:a2=a0):a0 <= 30:=by lia
theorem Adh {a0 a1:Nat} (_:(1 <= a0) /\ ((a0 <= 30) /\ ((1 <= a1) /\ (a1 <= 30)))):0 < a0:=by lia
theorem Ai0 {a0 a1 a2:Nat} (_:(1 <= a1) /\ ((a1 <= 30) /\ ((1 <= a2) /\ (a2 <= 30)))) (_:a0=a1):0 < a0:=by grind
theorem Ag5 {a0 a1 a2:Nat} (_:(1 <= a0) /\ ((a0 <= 30) /\ ((1 <= a1) /\ (a1 <= 30)))) (_:a2=a0):a0 < 16777216:=by lia
theorem Ai1 {a0 a1 a2:Nat} (_:a0 < a1):a0≠(a1+a2):=by lia
theorem Ai2 {a0 a1 a2:Nat} (_:a0 < a1):a0≠(a1+(1 * a2)):=by grind
theorem Ai3 {a0 a1 a2:Nat} (_:a1=((a0+a2)+1)):a0 <= a1:=by lia
theorem Ai4 {a0 a1 a2 a3:Nat} (_:a1=((a0+a3)+1)):a0 <= (a1+a2):=by lia
theorem Ai5 {a0 a1 a2 a3:Nat} (_:a0 < a2) (_:a1=((a2+a3)+1)):a0≠a1:=by grind
theorem Ai6 {a0 a1:Nat} (_:¬ (a1 < a0)):(a0+(a1 - a0))=a1:=by grind
theorem Ai7 {a0 a1:Nat} (_:a1=16777216) (_:a0 <= 30):a0 < a1:=by lia
theorem Ag6 {a0 a1:Nat}:a0 <= (a0+a1):=by grind
theorem Ai8 {a0 a1:Nat} (h0:a1=16777216) (h1:a0 <= (30 * 30)):a0 < a1:=h0▸Nat.lt_of_le_of_lt h1 (by decide)
theorem Afj {x0 x1:Int} (_:¬ (x1 < x0)):x0 <= x1:=by lia
theorem Ai9 {x0 x1:Int} (_:x1 > x0):x0 <= x1:=by grind
theorem Aja {x0 x1:Int} (h0:¬ (x0 > x1)):x0 <= x1:=Int.not_lt.mp h0
theorem Ajb {x0 x1 x2:Int} (_:x0 < x1) (_:x0=x2) (_:x1 <= x2):False:=by lia
theorem Ag7 {x0 x1 x2:Int} (_:x0 < x2) (_:x2 <= x1):x0 <= x1:=by lia
theorem Ajc {x0 x1:Int} (_:x1 <= x0) (_:x0 <= x1):x0=x1:=by grind
theorem Ajd {x0 x1:Int} (_:x0 <= x1) (_:x1 <= x0):x0=x1:=by lia
theorem Aje {a0:Nat} (_:a0 < 8):(0:Int) <= ((a0:Nat):Int):=by grind
theorem Ajf {a0 a1:Nat} (h0:a0 < 4) (h1:a1 < 5):(1 <= (1+a0)) /\ (((1+a0) <= 30) /\ ((1 <= (1+a1)) /\ ((1+a1) <= 30))):=⟨Nat.le_add_right _ _,Nat.le_trans (Nat.add_le_add_left (Nat.le_of_lt h0) 1) (by decide),Nat.le_add_right _ _,Nat.le_trans (Nat.add_le_add_left (Nat.le_of_lt h1) 1) (by decide)⟩
theorem Ajg {a0:Nat} (_:a0 < 4):(1+a0) <= 4:=by lia
theorem Ajh {a0:Nat} (_:a0 < 5):(1+a0) <= 5:=by lia
theorem Aji {a0:Nat} (_:a0 <= (4 * 5)):a0 <= 63:=by grind
theorem Ajj {a0 a1:Nat} (_:(1 <= a1) /\ ((a1 <= 30) /\ ((1 <= a0) /\ (a0 <= 30)))):a0 <= 1000:=by lia
theorem Ajk {a0 a1 a2:Nat} (h0:(1 <= a2) /\ ((a2 <= 30) /\ ((1 <= a0) /\ (a0 <= 30)))) (h1:a1=16777216):a0 < a1:=h1▸Nat.lt_of_le_of_lt h0.2.2.2 (by decide)
theorem Ag8 {a0 a1 a2:Nat} (_:(1 <= a1) /\ ((a1 <= 30) /\ ((1 <= a2) /\ (a2 <= 30)))) (_:a0 < a1):a0 <= 29:=by lia
theorem Afr {a0 a1:Nat} (_:(1 <= a1) /\ ((a1 <= 30) /\ ((1 <= a0) /\ (a0 <= 30)))):a0 <= 30:=by grind
theorem Ajl {a0 a1 a2 a3:Nat} (h0:(1 <= a2) /\ ((a2 <= 30) /\ ((1 <= a3) /\ (a3 <= 30)))) (h1:a1 < a3) (h2:a0 <= (29 * 30)):(a0+a1) <= 900:=Nat.le_trans (Nat.add_le_add h2 (Nat.le_trans (Nat.le_of_lt h1) h0.2.2.2)) (by decide)
theorem Ag9 {a0 a1 a2:Nat} (h0:(1 <= a1) /\ ((a1 <= 30) /\ ((1 <= a2) /\ (a2 <= 30)))) (h1:a0 < a1):((- (18446744073709551616:Int)) < ((a0:Nat):Int)) /\ (((a0:Nat):Int) < (18446744073709551616:Int)):=⟨Int.lt_of_lt_of_le (by decide) (Int.natCast_nonneg _),Int.lt_trans (Int.ofNat_lt.mpr (Nat.lt_of_lt_of_le h1 h0.2.1)) (by decide)⟩
theorem Ajm {a0 a1 a2:Nat} (_:a1=16777216) (_:a0=a2) (_:a2 <= 1000):a0 < a1:=by grind
theorem Ajn {a0 a1:Nat}:(((a0+1)+(2 * a1))+1)=((a0+2)+(2 * a1)):=by grind
theorem Aha {a0 a1:Nat}:a0≠((a0+2)+(2 * a1)):=by grind
theorem Ajo {a0 a1:Nat}:((a0+2)+(2 * a1))=(((a0+1)+(2 * a1))+1):=by grind
theorem Ahb {a0 a1:Nat} (h0:(1 <= a0) /\ ((a0 <= 30) /\ ((1 <= a1) /\ (a1 <= 30)))):(- (1073741824:Int)) <= ((a0:Nat):Int):=Int.le_trans (by decide) (Int.natCast_nonneg _)
theorem Ahc {a0 a1:Nat} (_:(1 <= a0) /\ ((a0 <= 30) /\ ((1 <= a1) /\ (a1 <= 30)))):((a0:Nat):Int) <= (1073741824:Int):=by lia
theorem Ajp {a0 a1 a2:Nat} (h0:((a0:Nat):Int) < ((a1:Nat):Int)) (h1:(1 <= a1) /\ ((a1 <= 30) /\ ((1 <= a2) /\ (a2 <= 30)))):a0 < 1000:=Nat.lt_of_lt_of_le (Int.ofNat_lt.mp h0) (Nat.le_trans h1.2.1 (by decide))
theorem Ajq {a0 a1 a2:Nat} (_:(1 <= a1) /\ ((a1 <= 30) /\ ((1 <= a0) /\ (a0 <= 30)))) (_:a2=a0):a0 <= 1000:=by grind
theorem Ajr {a0 a1:Nat}:((((a0+1)+(2 * a1))+1)+1)=((a0+1)+(2 * (a1+1))):=by grind
theorem Ajs {a0 a1 a2 a3:Nat} (_:(1 <= a1) /\ ((a1 <= 30) /\ ((1 <= a2) /\ (a2 <= 30)))) (_:0 < a3) (_:a0=a2):0 < a0:=by grind
theorem Ajt {a0 a1:Nat} {x0 x1:Int} (h0:((0:Int) <= x0) /\ ((x0 < ((a0:Nat):Int)) /\ (((0:Int) <= x1) /\ (x1 < ((a1:Nat):Int))))):x0=(((Int.toNat x0):Nat):Int):=(Int.toNat_of_nonneg h0.1).symm
theorem Aju {a0 a1:Nat} {x0 x1:Int} (h0:((0:Int) <= x1) /\ ((x1 < ((a0:Nat):Int)) /\ (((0:Int) <= x0) /\ (x0 < ((a1:Nat):Int))))):x0=(((Int.toNat x0):Nat):Int):=(Int.toNat_of_nonneg h0.2.2.1).symm
theorem Ajv {a0 a1:Nat} {x0 x1:Int} (h0:((0:Int) <= x0) /\ ((x0 < ((a0:Nat):Int)) /\ (((0:Int) <= x1) /\ (x1 < ((a1:Nat):Int))))):(Int.toNat x0) < a0:=(Int.toNat_lt h0.1).mpr h0.2.1
theorem Ajw {a0 a1:Nat} {x0 x1:Int} (h0:((0:Int) <= x1) /\ ((x1 < ((a1:Nat):Int)) /\ (((0:Int) <= x0) /\ (x0 < ((a0:Nat):Int))))):(Int.toNat x0) < a0:=(Int.toNat_lt h0.2.2.1).mpr h0.2.2.2
theorem Ajx {a0 a1 a2 a3:Nat} (h0:a0 < a1) (h1:a2 < a3):((0:Int) <= ((a0:Nat):Int)) /\ ((((a0:Nat):Int) < ((a1:Nat):Int)) /\ (((0:Int) <= ((a2:Nat):Int)) /\ (((a2:Nat):Int) < ((a3:Nat):Int)))):=⟨Int.natCast_nonneg _,Int.ofNat_lt.mpr h0,Int.natCast_nonneg _,Int.ofNat_lt.mpr h1⟩
theorem Ahd {a0:Nat} {x0:Int} (h0:((0:Int) <= x0) /\ (x0 <= (((a0:Nat):Int) - (1:Int)))):(0:Int) <= x0:=h0.1
theorem Ahe {a0:Nat} {x0:Int} (_:((0:Int) <= x0) /\ (x0 <= (((a0:Nat):Int) - (1:Int)))):x0 < ((a0:Nat):Int):=by lia
theorem Ahf {a0 a1:Nat} {x0 x1:Int} (h0:((0:Int) <= x1) /\ ((x1 < ((a1:Nat):Int)) /\ (((0:Int) <= x0) /\ (x0 < ((a0:Nat):Int))))):x0 <= (((a0:Nat):Int) - (1:Int)):=Int.le_sub_one_of_lt h0.2.2.2
theorem Ahg {a0 a1:Nat} {x0 x1:Int} (_:((0:Int) <= x0) /\ ((x0 < ((a0:Nat):Int)) /\ (((0:Int) <= x1) /\ (x1 < ((a1:Nat):Int))))):x0 <= (((a0:Nat):Int) - (1:Int)):=by grind
theorem Ajy {a0 a1 a2:Nat} (h0:a2 < 1000) (h1:a1=16777216) (h2:a0 <= a2):a0 < a1:=h1▸Nat.lt_trans (Nat.lt_of_le_of_lt h2 h0) (by decide)
theorem Ajz {a0 a1:Nat} (_:((a0:Nat):Int)=((a1:Nat):Int)) (_:a0 < a1):False:=by lia
theorem Aj0 {a0 a1 a2:Nat} (h0:a0 < (min a1 a2)):a0 < a1:=Nat.lt_of_lt_of_le h0 (Nat.min_le_left _ _)
theorem Aj1 {a0 a1:Nat} (_:a0 < a1):(a0+1) <= a1:=by lia
theorem Afk {a0 a1:Nat} (_:a0 < 2000) (_:a1=16777216):a0 < a1:=by lia
theorem Afs {a0 a1 a2:Nat} (h0:a0 <= (a1+a2)) (h1:a2 <= 4):a0 <= (a1+4):=Nat.le_trans h0 (Nat.add_le_add_left h1 _)
theorem Aj2 {a0 a1 a2 a3:Nat} (h0:a1 < 990) (h1:a2 < a3) (h2:a0 <= (a1+a2)) (h3:a3 <= 4) (h4:a2 <= 4):a0 < 1000:=Nat.lt_of_le_of_lt h2 (Nat.lt_trans (Nat.add_lt_add_of_lt_of_le h0 h4) (by decide))
theorem Ahh {a0 a1 a2 a3:Nat} (h0:a1 < 1900) (h1:a2 < a3) (h2:a0 <= (a1+a2)) (h3:a3 <= 4) (h4:a2 <= 4):a0 < 2000:=Nat.lt_of_le_of_lt h2 (Nat.lt_trans (Nat.add_lt_add_of_lt_of_le h0 h4) (by decide))
theorem Aj3 {a0 a1 a2:Nat} (_:(a0+(5 * a1))=a2) (_:a2 < 990):a0 < 1000:=by lia
theorem Aj4 {a0 a1 a2 a3 a4 a5:Nat} (h0:(a1+(4 * a2)) < 1800) (h1:(a3+(5 * a2))=a4) (h2:a4 < 990) (h3:a3=(a5+1)) (h4:a0=a5):a0 < 990:=h4▸Nat.lt_trans (h3▸Nat.lt_succ_self a5) (Nat.lt_of_le_of_lt (Nat.le_add_right _ _) (h1▸h2))
theorem Aj5 {a0 a1:Nat} (h0:(a0+(4 * a1)) < 1800):a0 < 1900:=Nat.lt_of_le_of_lt (Nat.le_add_right _ _) (Nat.lt_trans h0 (by decide))
theorem Aj6 {a0 a1 a2:Nat} (_:(a1+(4 * a2)) < 1800) (_:(a0+(4 * a2)) < 1800):a0 < 1900:=by grind
theorem Aj7 {a0 a1 a2 a3 a4 a5 a6:Nat} (h0:(a3+(5 * a4))=a2) (h1:(a1+1) <= a4) (h2:a3=(a5+1)) (h3:a6=a5) (h4:a0 <= (a6+4)):(a0+(5 * a1)) < a2:=h0▸h2▸Agy (h3▸h4) h1
theorem Aj8 {a0 a1 a2 a3 a4 a5 a6:Nat} (h0:(a2+(5 * a3))=a4) (h1:(a1+1) <= a3) (h2:a4 < 990) (h3:a2=(a5+1)) (h4:a6=a5) (h5:a0 <= (a6+4)):(a0+(5 * a1)) < 990:=Nat.lt_trans (h3▸Agy (h4▸h5) h1) (h0▸h2)
theorem Ahi {a0 a1 a2 a3:Nat} (h0:(a2+(4 * a3)) < 1800) (h1:(a1+1) <= a3) (h2:a0 <= (a2+4)):(a0+(4 * a1)) < 1800:=Nat.lt_of_le_of_lt (Aia h2 h1) h0
theorem Aj9 {a0 a1 a2 a3 a4:Nat} (h0:(a3+(5 * a1))=a2) (h1:a3=(a4+1)) (h2:a0=a4):(a0+(5 * a1)) < a2:=Nat.lt_of_lt_of_le (Nat.add_lt_add_right (h2▸h1▸Nat.lt_succ_self a4) _) (Nat.le_of_eq h0)
theorem Aka {a0 a1 a2 a3 a4:Nat} (h0:(a2+(5 * a1))=a3) (h1:a3 < 990) (h2:a2=(a4+1)) (h3:a0=a4):(a0+(5 * a1)) < 990:=Nat.lt_of_le_of_lt (Nat.le_trans (Nat.add_le_add_right (h3▸h2▸Nat.le_succ a4) _) (Nat.le_of_eq h0)) h1
theorem Akb {a0 a1 a2:Nat} (_:(a0+(5 * a1))=a2) (_:¬ ((0:Int) < ((a0:Nat):Int))):a0=0:=by grind
theorem Akc {a0 a1 a2 a3:Nat} (h0:a1 < a2) (h1:a3 <= (30 * 30)) (h2:a2 <= a3) (h3:a0 <= a1):a0 < 1000:=Nat.lt_of_le_of_lt (Nat.le_trans h3 (Nat.le_trans (Nat.le_of_lt h0) (Nat.le_trans h2 h1))) (by decide)
theorem Ahj {a0 a1 a2 a3:Nat} (h0:a1 < a2) (h1:a3 <= (30 * 30)) (h2:a2 <= a3) (h3:a0 <= a1):a0 < 2000:=Nat.lt_of_le_of_lt (Nat.le_trans h3 (Nat.le_trans (Nat.le_of_lt h0) (Nat.le_trans h2 h1))) (by decide)
theorem Akd {a0:Nat}:a0 <= (a0+1):=by grind
theorem Ake {a0:Nat}:a0 <= (a0+3):=by grind
theorem Ahk {a0:Nat}:a0≠(a0+1):=by grind
theorem Akf {a0 a1:Nat} (_:a0=(a1+2)):a0 <= (a1+2):=by lia
theorem Akg {a0 a1:Nat} (_:a0=(a1+2)):a0 <= (a1+3):=by lia
theorem Akh {a0:Nat}:((a0+3) - (a0+2))=1:=Nat.add_sub_add_left a0 3 2
theorem Aki {a0 a1 a2:Nat} (h0:a1=a2) (h1:a2 <= 132) (h2:a0 <= a2):(a0+(5 * a1)) < 990:=Nat.lt_of_le_of_lt (Nat.add_le_add (Nat.le_trans h2 h1) (Nat.mul_le_mul_left 5 (Nat.le_trans (Nat.le_of_eq h0) h1))) (by decide)
theorem Ahl {a0 a1 a2:Nat} (h0:a1=a2) (h1:a2 <= 132) (h2:a0 <= a2):(a0+(4 * a1)) < 1800:=Nat.lt_of_le_of_lt (Nat.add_le_add (Nat.le_trans h2 h1) (Nat.mul_le_mul_left 4 (Nat.le_trans (Nat.le_of_eq h0) h1))) (by decide)
theorem Akj {a0:Nat} (_:a0 < 5):(0:Int) <= ((a0:Nat):Int):=by grind
theorem Akk {a0 a1 a2:Nat} (_:(1 <= a0) /\ ((a0 <= 30) /\ ((1 <= a1) /\ (a1 <= 30)))) (_:a2=a0):(- (1073741824:Int)) <= ((a0:Nat):Int):=by grind
theorem Akl {a0 a1 a2:Nat} (_:(1 <= a0) /\ ((a0 <= 30) /\ ((1 <= a1) /\ (a1 <= 30)))) (_:a2=a0):((a0:Nat):Int) <= (1073741824:Int):=by grind
theorem Akm {a0 a1 a2:Nat} (_:((a0:Nat):Int) < ((a1:Nat):Int)) (_:a2=a1):a0 < a1:=by grind
theorem Ahm {a0 a1:Nat} (_:(1 <= a1) /\ ((a1 <= 30) /\ ((1 <= a0) /\ (a0 <= 30)))):(- (1073741824:Int)) <= ((a0:Nat):Int):=by lia
theorem Ahn {a0 a1:Nat} (_:(1 <= a1) /\ ((a1 <= 30) /\ ((1 <= a0) /\ (a0 <= 30)))):((a0:Nat):Int) <= (1073741824:Int):=by grind
theorem Akn {a0 a1 a2 a3:Nat} (_:((a0:Nat):Int) < ((a1:Nat):Int)) (_:(1 <= a1) /\ ((a1 <= 30) /\ ((1 <= a2) /\ (a2 <= 30)))) (_:a3=a1):a0 <= 29:=by lia
theorem Ako {a0 a1:Nat} (_:a0 < 100) (_:a1=16777216):a0 < a1:=by lia
theorem Akp {a0:Nat} (_:a0 <= 1):(0+a0) < 100:=by lia
theorem Akq {a0 a1:Nat} (h0:a0 <= 1) (h1:a1 <= 1):((0+a0)+a1) < 100:=Nat.lt_of_le_of_lt (Nat.add_le_add (Nat.add_le_add_left h0 0) h1) (by decide)
theorem Akr {a0 a1 a2:Nat} (h0:a0 <= 1) (h1:a1 <= 1) (h2:a2 <= 1):(((0+a0)+a1)+a2) < 100:=Nat.lt_of_le_of_lt (Nat.add_le_add (Nat.add_le_add (Nat.add_le_add_left h0 0) h1) h2) (by decide)
theorem Aks {a0:Nat} (_:a0 <= 4):a0 < 1000:=by lia
theorem Akt {a0 a1:Nat} {x0 x1:Int} (h0:((0:Int) <= x0) /\ ((x0 < ((a0:Nat):Int)) /\ (((0:Int) <= x1) /\ (x1 < ((a1:Nat):Int))))):(0:Int) <= x0:=h0.1
theorem Aku {a0 a1:Nat} {x0 x1:Int} (h0:((0:Int) <= x1) /\ ((x1 < ((a0:Nat):Int)) /\ (((0:Int) <= x0) /\ (x0 < ((a1:Nat):Int))))):(0:Int) <= x0:=h0.2.2.1
theorem Akv {a0 a1:Nat} {x0 x1:Int} (h0:(((0:Int) <= x0) /\ (x0 <= (((a0:Nat):Int) - (1:Int)))) /\ (((0:Int) <= x1) /\ (x1 <= (((a1:Nat):Int) - (1:Int))))):((0:Int) <= x0) /\ ((x0 < ((a0:Nat):Int)) /\ (((0:Int) <= x1) /\ (x1 < ((a1:Nat):Int)))):=⟨h0.1.1,Int.lt_of_le_sub_one h0.1.2,h0.2.1,Int.lt_of_le_sub_one h0.2.2⟩
theorem Akw {a0:Nat} (_:a0≠2):¬ (((a0:Nat):Int)=(2:Int)):=by lia
theorem Akx {a0:Nat}:(- (((a0+1):Nat):Int)) <= (- (1:Int)):=by grind
theorem Aky {a0:Nat}:(Int.toNat ((- (1:Int))+(((a0+1):Nat):Int)))=a0:=by grind
theorem Akz {a0 a1 a2 a3:Nat} (h0:(a0+(a1+1))=a2) (h1:a3 <= 132) (h2:a2 <= a3):(a0+1) < 16777216:=Nat.lt_of_le_of_lt (Nat.le_trans (Nat.add_le_add_left (Nat.le_add_left 1 a1) a0) (Nat.le_trans (Nat.le_of_eq h0) (Nat.le_trans h2 h1))) (by decide)
theorem Ak0 {x0 x1 x2:Int} (h0:x0 < x2) (h1:x2 <= x1):x0 < x1:=Int.lt_of_lt_of_le h0 h1
theorem Ak1 {a0 a1:Nat} (_:a0 <= (a1 * 1)):a0 <= (a1+1):=by lia
theorem Ak2 {a0 a1:Nat} (h0:a0 <= (a1 * 1)):a0 < (a1+1):=Nat.lt_succ_of_le (Nat.le_trans h0 (Nat.le_of_eq (Nat.mul_one _)))
theorem Ak3 {x0 x1:Int} (_:x1 > x0):¬ (x0 > x1):=by lia
theorem Ak4 {x0 x1:Int} (h0:¬ (x1 > x0)) (h1:¬ (x0 > x1)):x0=x1:=Int.le_antisymm (Int.not_lt.mp h1) (Int.not_lt.mp h0)
theorem Ak5 {a0:Nat} (_:a0 < 5000):a0 < 16777216:=by lia
theorem Ak6 {a0 a1 a2 a3:Nat} (h0:a1 < a3) (h1:a0 <= (a2+1)):(a0+a1) <= (a2+a3):=Nat.le_trans (Nat.add_le_add_right h1 _) (Nat.le_trans (Nat.le_of_eq (Nat.add_right_comm _ _ _)) (Nat.add_le_add_left h0 _))
theorem Ak7 {a0 a1 a2 a3:Nat} (h0:(a1+a2) < 5000) (h1:(a0+a3) <= (a1+a2)):a0 < 5000:=Nat.lt_of_le_of_lt (Nat.le_trans (Nat.le_add_right _ _) h1) h0
theorem Ak8 {a0 a1:Nat} (_:a0 < (a1+1)) (_:¬ (a0=a1)):a0 < a1:=by lia
theorem Ak9 {a0 a1 a2 a3:Nat} (_:(a0 < (a1+1)) /\ (a2 < a3)) (_:¬ (a0=a1)):a0 < a1:=by lia
theorem Ala {a0 a1 a2:Nat} (h0:(a2+a1) < 5000) (h1:(a0+a1) <= (a2+a1)):(a0+a1) < 5000:=Nat.lt_of_le_of_lt h1 h0
theorem Alb {a0 a1 a2 a3:Nat} (h0:(a2+a3) < 5000) (h1:(a0+a1) <= (a2+a3)):(a0+a1) < 5000:=Nat.lt_of_le_of_lt h1 h0
theorem Alc {a0 a1 a2:Nat} (h0:a1 < a2) (h1:a2 <= 900) (h2:a0 <= a1):a0 < 16777216:=Nat.lt_of_le_of_lt (Nat.le_trans h2 (Nat.le_trans (Nat.le_of_lt h0) h1)) (by decide)
theorem Ald {a0 a1 a2 a3:Nat} (h0:a2 <= (63 * (63+1))) (h1:a3 <= 900) (h2:a0 <= a3) (h3:a1 <= a2):(a0+a1) < 5000:=Nat.lt_of_le_of_lt (Nat.add_le_add (Nat.le_trans h2 h1) (Nat.le_trans h3 h0)) (by decide)
theorem Ale {a0 a1 a2:Nat} (_:a1 < a2) (_:a2 <= 1000) (_:a0 <= a1):a0 < 16777216:=by lia
theorem Aho {a0 a1 a2 a3:Nat} (_:a1 < a2) (_:a3=a2) (_:a0 <= (1000+a1)) (_:a2 <= 100):a0 < 5000:=by lia
theorem Alf {a0 a1:Nat} (_:a0 <= (1000+a1)):a0 <= (1000+(a1+1)):=by lia
theorem Ahp {a0 a1 a2:Nat} (_:a2 <= (1000+a1)) (_:a0 <= (a2+1)):a0 <= (1000+(a1+1)):=by lia
theorem Ahq {a0 a1:Nat} (_:(1 <= a0) /\ ((a0 <= 30) /\ ((1 <= a1) /\ (a1 <= 30)))):((0:Int) <= (0:Int)) /\ (((0:Int) < ((a0:Nat):Int)) /\ (((0:Int) <= (0:Int)) /\ ((0:Int) < ((a1:Nat):Int)))):=by lia
theorem Ahr {a0 a1:Nat} (_:(1 <= a1) /\ ((a1 <= 30) /\ ((1 <= a0) /\ (a0 <= 30)))):0 < a0:=by grind
theorem Aft {a0 a1 a2:Nat} (_:(1 <= a1) /\ ((a1 <= 30) /\ ((1 <= a0) /\ (a0 <= 30)))) (_:a2=a0):0 < a0:=by lia
theorem Ahs {a0 a1 a2:Nat} (_:(1 <= a1) /\ ((a1 <= 30) /\ ((1 <= a2) /\ (a2 <= 30)))) (_:a0=a2):(0:Int) < ((a0:Nat):Int):=by lia
theorem Alg {a0 a1 a2:Nat} (_:(a2+a0)=(a2+a1)):a0=a1:=by grind
theorem Alh {a0:Nat} (_:1 <= a0):0 < a0:=by lia
theorem Aht {a0:Nat}:0≠(a0+1):=by grind
theorem Ali {a0 a1 a2 a3:Nat} (_:(1 <= a2) /\ ((a2 <= 30) /\ ((1 <= a3) /\ (a3 <= 30)))) (_:a1=a2):(a0+(1 * 0))≠(a0+a1):=by lia
theorem Alj {a0 a1 a2 a3 a4:Nat} (_:(1 <= a2) /\ ((a2 <= 30) /\ ((1 <= a3) /\ (a3 <= 30)))) (_:a1=(a0+a2)) (_:a4=a2):(a0+(1 * 0))≠a1:=by grind
theorem Ahu {a0 a1 a2 a3 a4:Nat} (_:(1 <= a0) /\ ((a0 <= 30) /\ ((1 <= a1) /\ (a1 <= 30)))) (_:a2=(a3+a0)) (_:a4=a0):0 < a0:=by lia
theorem Alk {a0 a1 a2:Nat} (_:a1 < 1000) (_:a2 < a1) (_:a0 <= a2):a0 < 16777216:=by lia
theorem Alm {a0 a1:Nat} (_:(a0+a1) <= 1000):(a0+a1) <= 16777216:=by lia
theorem Aln {a0 a1:Nat} (_:a0 < a1):((0:Int) <= ((a0:Nat):Int)) /\ (((a0:Nat):Int) < ((a1:Nat):Int)):=by lia
theorem Alo {x0:Int} (_:((0:Int) <= x0) /\ (x0 < (10:Int))):(0:Int) <= x0:=by lia
theorem Alp {x0:Int} (_:((0:Int) <= x0) /\ (x0 < (10:Int))):x0 <= (1000000000:Int):=by lia
theorem Alq {x0:Int} (_:((0:Int) <= x0) /\ (x0 < (1000000001:Int))):((0:Int) <= x0) /\ (x0 <= (1000000000:Int)):=by lia
theorem Alr {a0:Nat} (_:a0 < 2):(0:Int) <= ((a0:Nat):Int):=by grind
theorem Als {a0 a1:Nat} (_:(1 <= a0) /\ ((a0 <= 30) /\ ((1 <= a1) /\ (a1 <= 30)))):¬ (((a0:Nat):Int)=(0:Int)):=by lia
theorem Alt {a0 a1:Nat} (_:(1 <= a1) /\ ((a1 <= 30) /\ ((1 <= a0) /\ (a0 <= 30)))):¬ (((a0:Nat):Int)=(0:Int)):=by grind
theorem Alu {a0:Nat} (_:a0 <= 100):a0 < 16777216:=by lia
theorem Alv {a0 a1:Nat} {x0 x1:Int} (_:((0:Int) <= x0) /\ (x0 < ((a0:Nat):Int))) (_:((0:Int) <= x1) /\ (x1 < ((a1:Nat):Int))):((0:Int) <= x0) /\ ((x0 < ((a0:Nat):Int)) /\ (((0:Int) <= x1) /\ (x1 < ((a1:Nat):Int)))):=by lia
theorem Alw {a0:Nat}:(a0 - (a0 - 12)) <= 12:=by omega
theorem Alx {a0 a1 a2:Nat} (_:a1 < a2) (_:a2 <= 12) (_:a0 <= a1):a0 <= 100:=by lia
theorem Aly {a0:Nat} (_:a0 <= 12):(a0+a0) <= 1000:=by grind
theorem Alz {a0:Nat} (_:a0 <= 12):((a0+a0)+a0) <= 1000:=by lia
theorem Al0 {a0:Nat} (_:a0 <= 12):(((a0+a0)+a0)+a0) <= 1000:=by grind
theorem Al1 {a0:Nat} (_:a0 <= 12):((((a0+a0)+a0)+a0)+a0) <= 1000:=by grind
theorem Al2 {a0:Nat} (_:a0 <= 12):((((a0+a0)+a0)+a0)+a0) <= 60:=by grind
theorem Al3 {a0 a1:Nat}:¬ (((0:Int) <= ((a0:Nat):Int)) /\ ((((a0:Nat):Int) < ((a0:Nat):Int)) /\ (((0:Int) <= (0:Int)) /\ ((0:Int) < ((a1:Nat):Int))))):=by grind
theorem Al4 {a0 a1:Nat}:¬ (((0:Int) <= (0:Int)) /\ (((0:Int) < ((a0:Nat):Int)) /\ (((0:Int) <= (- (1:Int))) /\ ((- (1:Int)) < ((a1:Nat):Int))))):=by omega
theorem Al5 {a0 a1:Nat}:¬ (((0:Int) <= (- (1:Int))) /\ (((- (1:Int)) < ((a0:Nat):Int)) /\ (((0:Int) <= (0:Int)) /\ ((0:Int) < ((a1:Nat):Int))))):=by omega
theorem Al6 {a0 a1:Nat}:¬ (((0:Int) <= (0:Int)) /\ (((0:Int) < ((a0:Nat):Int)) /\ (((0:Int) <= ((a1:Nat):Int)) /\ (((a1:Nat):Int) < ((a1:Nat):Int))))):=fun h=>Int.lt_irrefl _ h.2.2.2
theorem Al7 {a0:Nat} (_:a0 <= 900):a0 < 16777216:=by lia
theorem Al8 {a0:Nat} (_:a0 <= 60):(a0+1) <= 1000:=by lia
theorem Ahv {a0 a1:Nat} (_:a0 <= 60):(a0 - a1) <= 60:=by lia
theorem Al9 {a0 a1:Nat} (_:a0 <= 60) (_:a1 <= 60):((a0+1)+a1) <= 1000:=by lia
theorem Ama {a0:Nat}:¬ ((((a0:Nat):Int)+(1:Int))=(0:Int)):=by lia
theorem Amc {a0 a1:Nat} (_:a0 <= 60) (_:a1 <= 60):(a0+(a1+1)) < 16777216:=by lia
theorem Amd {a0 a1:Nat} (_:a1 <= 63) (_:a0 <= a1):a0 <= 63:=by lia
theorem Ame {a0:Nat} (_:a0 <= 63):a0 < 1000:=by lia
theorem Ah {P:Prop} (h:∀ G:Prop,(P -> G) -> G):P:=h P id
theorem Ae {α:Type} {a:α} {P:Prop} (h:(none:Option α)=some a):P:=nomatch h
theorem Aq {P:Prop} (h:false=true):P:=nomatch h
open PySem
noncomputable section
inductive Val where
  | none
  | bool (b:Bool)
  | int (i:Int)
  | str (s:Str)
  | tup (vs:List Val)
  | loc (l:Nat)
  | script (ns:List Int)
  | rng (n:Int)
  | exc (c:Nat)
noncomputable def Z8 (a b:List Val):Bool:=@decide (a=b) (Classical.propDecidable _)
theorem V5 (a b:List Val) (h:Z8 a b=true):a=b:=@of_decide_eq_true _ (Classical.propDecidable _) h
theorem Qj (a:List Val):Z8 a a=true:=@decide_eq_true _ (Classical.propDecidable _) rfl
noncomputable abbrev Key:=Int × Int
inductive HObj where
  | list (xs:List Val)
  | dict (es:List (Key × Val))
  | inst (c:Nat) (fs:List (Nat × Val))
  | hid
noncomputable abbrev Hp:=List HObj
inductive Res (α:Type) where
  | ok (a:α) (H:Hp)
  | exc (c:Nat) (H:Hp)
  | bad
theorem Ee {α:Type} {a:α} {H:Hp} {P:Prop} (h:(Res.bad:Res α)=.ok a H):P:=nomatch h
theorem Kx {α:Type} {a:α} {c:Nat} {H H':Hp} {P:Prop} (h:(Res.exc c H':Res α)=.ok a H):P:=nomatch h
noncomputable def M (α:Type):=Hp -> Res α
namespace M
noncomputable def ret {α:Type} (a:α):M α:=fun H=>.ok a H
noncomputable def bnd {α β:Type} (m:M α) (f:α -> M β):M β:=fun H =>
  match m H with
  | .ok a H'=>f a H'
  | .exc c H'=>.exc c H'
  | .bad=>.bad
noncomputable def bad {α:Type}:M α:=fun _=>.bad
noncomputable def raise {α:Type} (c:Nat):M α:=fun H=>.exc c H
noncomputable def ofOpt {α:Type}:Option α -> M α
  | some a=>ret a
  | none=>bad
noncomputable def look {α:Type} (f:Hp -> Option α):M α:=fun H =>
  match f H with
  | some a=>.ok a H
  | none=>.bad
noncomputable def quiet {α:Type} (m:M α):M α:=fun H =>
  match m H with
  | .exc _ _=>.bad
  | r=>r
noncomputable def alloc (o:HObj):M Val:=fun H=>.ok (.loc H.length) (H++[o])
noncomputable def put (l:Nat) (o:HObj):M Unit:=fun H=>.ok () (H.set l o)
end M
theorem D4 {α β:Type} {m:M α} {f:α -> M β} {H H':Hp} {a:α} (h:m H=.ok a H'):(m.bnd f) H=f a H':=by
  unfold M.bnd;rw [h]
theorem Fd {α β:Type} {m:M α} {f:α -> M β} {H H':Hp} {c:Nat} (h:m H=.exc c H'):(m.bnd f) H=.exc c H':=by
  unfold M.bnd;rw [h]
theorem Df {α β:Type} {m:M α} {f:α -> M β} {H:Hp} (h:m H=.bad):(m.bnd f) H=.bad:=by
  unfold M.bnd;rw [h]
inductive BOp where
  | add | sub | mul | fdiv | mod
inductive COp where
  | eq | ne | lt | le | gt | is | isNot | isin | notin
inductive Ty where
  | int | bool | str | tuple | list
  | cls (c:Nat)
inductive BF where
  | len | range | list | max2 | sortedSet
inductive BM where
  | append | pop | dpop | clear | rstrip
set_option genCtorIdx false in
mutual
inductive ME where
  | none
  | bool (b:Bool)
  | int (i:Int)
  | str (s:Str)
  | glob (k:Nat)
  | var (i:Nat)
  | bin (op:BOp) (a b:ME)
  | neg (a:ME)
  | not (a:ME)
  | and (a b:ME)
  | or (a b:ME)
  | cmp (op:COp) (a b:ME)
  | cmp2 (op1 op2:COp) (a b c:ME)
  | sub (a i:ME)
  | slice (a:ME) (lo hi:MEo)
  | tup (es:MEs)
  | list (es:MEs)
  | dict
  | attr (a:ME) (n:Nat)
  | call (f:Nat) (es:MEs)
  | new (c:Nat) (es:MEs)
  | umeth (a:ME) (m:Nat) (es:MEs)
  | bf (f:BF) (es:MEs)
  | bm (a:ME) (m:BM) (es:MEs)
  | isinst (a:ME) (t:Ty)
  | comp (elt:ME) (it:ME) (cond:MEo)
inductive MEo where
  | none
  | some (e:ME)
inductive MEs where
  | nil
  | cons (e:ME) (es:MEs)
end
set_option genCtorIdx false in
mutual
inductive MS where
  | expr (e:ME)
  | assign (i:Nat) (e:ME)
  | setattr (o:ME) (n:Nat) (e:ME)
  | setitem (o i:ME) (e:ME)
  | ret (e:MEo)
  | ite (c:ME) (t f:MSs)
  | loop (c:ME) (body:MSs)
  | each (i:Nat) (it:ME) (body:MSs)
  | eachPair (i j:Nat) (it:ME) (body:MSs)
  | raise (c:Nat) (msg:Str)
  | tryx (body:MSs) (hs:MHs)
inductive MSs where
  | nil
  | cons (s:MS) (ss:MSs)
inductive MHs where
  | nil
  | cons (c:Nat) (i:Option Nat) (body:MSs) (hs:MHs)
end
structure MFun where
  arity:Nat
  nvars:Nat
  body:MSs
structure Tab where
  funs:List MFun
  /-- of each class: its methods,by the name's number;number 0 is __init__ -/
  meths:List (List (Nat × Nat))
  /-- of each class: the classes that it stands under (itself too) -/
  subs:List (List Nat)
  globs:List Val
noncomputable def Tab.meth (T:Tab) (c m:Nat):Option Nat:=(T.meths[c]?).bind fun l=>l.lookup m
noncomputable def Tab.sub (T:Tab) (c d:Nat):Bool:=((T.subs[c]?).getD []).contains d
noncomputable def Tab.isExc (T:Tab) (c:Nat):Bool:=(T.meth c 0).isNone && decide (2 <= ((T.subs[c]?).getD []).length)
mutual
noncomputable def Jn (K:Nat -> Bool):ME -> Bool
  | .none=>true
  | .bool _=>true
  | .int _=>true
  | .str _=>true
  | .var _=>true
  | .bin _ a b=>Jn K a && Jn K b
  | .cmp _ a b=>Jn K a && Jn K b
  | .isinst a _=>Jn K a
  | .call f es=>K f && calmEs K es
  | .bm a m es=>(match m with | .rstrip=>true | _=>false) && Jn K a && calmEs K es
  | _=>false
noncomputable def calmEs (K:Nat -> Bool):MEs -> Bool
  | .nil=>true
  | .cons e es=>Jn K e && calmEs K es
end
noncomputable def Afu (K:Nat -> Bool):MEo -> Bool
  | .none=>true
  | .some e=>Jn K e
mutual
noncomputable def Adi (K:Nat -> Bool):MS -> Bool
  | .assign _ e=>Jn K e
  | .ret e=>Afu K e
  | .ite c t f=>Jn K c && calmSs K t && calmSs K f
  | _=>false
noncomputable def calmSs (K:Nat -> Bool):MSs -> Bool
  | .nil=>true
  | .cons s ss=>Adi K s && calmSs K ss
end
noncomputable def Fr (T:Tab) (k:Nat):Bool:=match T.funs[k]? with
  | some f=>calmSs (fun _=>false) f.body
  | none=>false
noncomputable def lid:Nat:=16777216
noncomputable def Jo (f:Val -> Option PyData):List Val -> Option (List PyData)
  | []=>some []
  | x :: xs =>
    match f x,Jo f xs with
    | some d,some ds=>some (d :: ds)
    | _,_=>none
noncomputable def Ry:Val -> Option PyData
  | .none=>some .none
  | .bool b=>some (.bool b)
  | .int i=>some (.int i)
  | .str s=>if PyData.strOk s=true then some (.str s) else none
  | _=>none
noncomputable def A6 (H:Hp):Nat -> Val -> Option PyData
  | 0,v=>Ry v
  | n+1,v =>
    match v with
    | .tup vs=>(Jo (A6 H n) vs).map .tuple
    | .loc l =>
      match H[l]? with
      | some (.list xs)=>(Jo (A6 H n) xs).map .list
      | _=>none
    | v=>Ry v
noncomputable def Gp:Nat:=6
noncomputable def Gq (H:Hp) (a b:Val):Option Bool :=
  match A6 H Gp a,A6 H Gp b with
  | some x,some y=>some (PyData.eqv x y)
  | _,_=>none
noncomputable def lts (e f:Val -> Val -> Option Bool):List Val -> List Val -> Option Bool
  | [],[]=>some false
  | [],_ :: _=>some true
  | _ :: _,[]=>some false
  | x :: xs,y :: ys =>
    match e x y with
    | some true=>lts e f xs ys
    | some false=>f x y
    | none=>none
noncomputable def Ada:Val -> Option Int
  | .int i=>some i
  | _=>none
noncomputable def Ahw:Val -> Option (List Val)
  | .tup i=>some i
  | _=>none
noncomputable def Afl (p:Int -> Int -> Bool) (a b:Val):Option Bool:=(Ada a).bind fun x=>(Ada b).map fun y=>p x y
noncomputable def N3:Nat -> Val -> Val -> Option Bool
  | 0,_,_=>none
  | n+1,a,b =>
    match a with
    | .int x=>(Ada b).map fun y=>decide (x < y)
    | .tup xs=>(Ahw b).bind fun ys=>lts (Gq []) (N3 n) xs ys
    | _=>none
noncomputable def Amf (a b:Val):List Val -> Option (Val × Val)
  | []=>some (a,b)
  | _ :: _=>none
noncomputable def Amg (a:Val):List Val -> Option (Val × Val)
  | []=>none
  | b :: vs=>Amf a b vs
noncomputable def Adb:Val -> Option (Val × Val)
  | .tup vs=>(match vs with
    | []=>none
    | a :: vs=>Amg a vs)
  | _=>none
noncomputable def Ef (v:Val):Option Key:=(Adb v).bind fun p=>(Ada p.1).bind fun a=>(Ada p.2).map fun b=>(a,b)
noncomputable def Aa (k:Key):Val:=.tup [.int k.1,.int k.2]
noncomputable def D5 (es:List (Key × Val)) (k:Key):Option Val:=es.lookup k
noncomputable def Fb:List (Key × Val) -> Key -> Val -> List (Key × Val)
  | [],k,v=>[(k,v)]
  | (k',v') :: es,k,v=>if k'=k then (k',v) :: es else (k',v') :: Fb es k v
noncomputable def Z9:List (Key × Val) -> Key -> List (Key × Val)
  | [],_=>[]
  | (k',v') :: es,k=>if k'=k then es else (k',v') :: Z9 es k
noncomputable def Pb (H:Hp) (x:Val) (ys:List Val):Option Bool :=
  match A6 H Gp x,Jo (A6 H Gp) ys with
  | some d,some ds=>some (ds.any fun y=>PyData.eqv y d)
  | _,_=>none
noncomputable def Eo (a:Int):Bool:=decide (-(2 ^ 64) < a) && decide (a < 2 ^ 64)
noncomputable def Adc (op:BOp) (a b:Val):M Val :=
  match op,a,b with
  | .add,.int x,.int y=>.ret (.int (x+y))
  | .sub,.int x,.int y=>.ret (.int (x - y))
  | .mul,.int x,.int y=>if (Eo x || Eo y)=true then .ret (.int (x * y)) else .bad
  | .fdiv,.int x,.int y=>if y=0 \/ 1073741824 <= y.natAbs then .bad else .ret (.int (Int.fdiv x y))
  | .mod,.int x,.int y=>if y=0 then .bad else .ret (.int (Int.fmod x y))
  | .add,.str x,.str y=>if x.length+y.length <= lid then .ret (.str (x++y)) else .bad
  | .add,.loc x,.loc y=>fun H =>
    match H[x]?,H[y]? with
    | some (.list xs),some (.list ys)=>if xs.length+ys.length <= lid then M.alloc (.list (xs++ys)) H else .bad
    | _,_=>.bad
  | _,_,_=>.bad
noncomputable def Yr (_neg:Bool):Option Bool -> Option Bool
  | some b=>some (!b)
  | none=>none
noncomputable def isV (a b:Val):Option Bool :=
  match b with
  | .none=>some (match a with | .none=>true | _=>false)
  | _=>none
noncomputable def inV (a b:Val) (H:Hp):Option Bool :=
  match b with
  | .loc l =>
    match H[l]? with
    | some (.list ys)=>Pb H a ys
    | some (.dict es)=>match Ef a with
      | some k=>some (D5 es k).isSome
      | none=>none
    | _=>none
  | _=>none
noncomputable def Dy (op:COp) (a b:Val) (H:Hp):Option Bool :=
  match op with
  | .eq=>Gq H a b
  | .ne=>Yr true (Gq H a b)
  | .lt=>N3 Gp a b
  | .gt=>Afl (fun x y=>decide (x > y)) a b
  | .le=>Afl (fun x y=>decide (x <= y)) a b
  | .is=>isV a b
  | .isNot=>Yr true (isV a b)
  | .isin=>inV a b H
  | .notin=>Yr true (inV a b H)
noncomputable def Cr (v:Val) (H:Hp):Option (List Val × Option Nat) :=
  match v with
  | .loc l =>
    match H[l]? with
    | some (.list xs)=>some (xs,some l)
    | _=>none
  | .rng n=>some ((List.range n.toNat).map (fun (k:Nat)=>.int (k:Int)),none)
  | _=>none
noncomputable def chk (src:Option Nat) (xs:List Val) (H:Hp):Bool :=
  match src with
  | none=>true
  | some l =>
    match H[l]? with
    | some (.list ys)=>Z8 ys xs
    | _=>false
noncomputable def Cc (v:Val) (H:Hp):Option (List Val) :=
  match v with
  | .loc l =>
    match H[l]? with
    | some (.list xs)=>some xs
    | _=>none
  | .tup xs=>some xs
  | .script ns=>some (ns.map .int)
  | _=>none
noncomputable def Cp (i:Int) (n:Nat):Option Nat :=
  if 0 <= i then (if i < n then some i.toNat else none) else (if -(n:Int) <= i then some (i+n).toNat else none)
noncomputable def C5 (a i:Val):M Val:=.look fun H =>
  match a,i with
  | .loc l,i =>
    match H[l]?,i with
    | some (.list xs),.int k=>(Cp k xs.length).bind fun p=>xs[p]?
    | some (.dict es),i=>(Ef i).bind (D5 es)
    | _,_=>none
  | .tup xs,.int k=>if 0 <= k then xs[k.toNat]? else none
  | .script ns,.int k=>(Cp k ns.length).bind fun p=>(ns[p]?).map .int
  | _,_=>none
noncomputable def Aaa:Val -> Bool
  | .tup _=>true
  | _=>false
noncomputable def V6 (lo hi:Val) (n:Nat):Option (Bool × Nat):=match lo with
  | .int k=>(match hi with
    | .none=>some (true,if 0 <= k then k.toNat else n - k.natAbs)
    | _=>none)
  | .none=>(match hi with
    | .int k=>if 0 <= k then some (false,k.toNat) else none
    | _=>none)
  | _=>none
noncomputable def cut {α:Type} (p:Bool × Nat) (xs:List α):List α:=match p.1 with
  | true=>xs.drop p.2
  | false=>xs.take p.2
noncomputable def Gr (a lo hi:Val):M Val:=fun H =>
  match Cc a H with
  | some xs=>(match V6 lo hi xs.length with
    | some p=>if Aaa a=true then .bad else M.alloc (.list (cut p xs)) H
    | none=>.bad)
  | none=>.bad
structure Order (xs:List Val) (lt:Val -> Val -> Bool):Prop where
  is:∀ x∈xs,∀ y∈xs,N3 Gp x y=some (lt x y)
  asym:∀ x∈xs,∀ y∈xs,lt x y=true -> lt y x=false
  tr:∀ x∈xs,∀ y∈xs,∀ z∈xs,lt y x=false -> lt z y=false -> lt z x=false
  anti:∀ x∈xs,∀ y∈xs,lt x y=false -> lt y x=false -> x=y
open Classical in
noncomputable def bfV (f:BF) (args:List Val):M Val :=
  match f,args with
  | .len,[v]=>.look fun H =>
    match v with
    | v=>(Cc v H).map fun xs=>.int xs.length
  | .range,[.int n]=>if -1073741824 <= n /\ n <= 1073741824 then .ret (.rng n) else .bad
  | .list,[v]=>fun H =>
    match v with
    | .loc _=>match Cc v H with
      | some xs=>M.alloc (.list xs) H
      | none=>.bad
    | _=>.bad
  | .max2,[.int a,.int b]=>.ret (.int (if b > a then b else a))
  | _,_=>.bad
noncomputable def bmV (m:BM) (o:Val) (args:List Val):M Val:=fun H =>
  match o with
  | .str s =>
    match m,args with
    | .rstrip,[]=>if (Txt.rstrip s).length <= lid then .ok (.str (Txt.rstrip s)) H else .bad
    | _,_=>.bad
  | .loc l =>
    match H[l]? with
    | some (.list xs) =>
      match m,args with
      | .append,[v]=>if xs.length < lid then .ok .none (H.set l (.list (xs++[v]))) else .bad
      | .pop,[]=>match xs.getLast? with
        | some v=>.ok v (H.set l (.list xs.dropLast))
        | none=>.bad
      | .clear,[]=>.ok .none (H.set l (.list []))
      | _,_=>.bad
    | some (.dict es) =>
      match m,args with
      | .dpop,[k]=>match Ef k with
        | some k=>match D5 es k with
          | some v=>.ok v (H.set l (.dict (Z9 es k)))
          | none=>.bad
        | none=>.bad
      | _,_=>.bad
    | _=>.bad
  | _=>.bad
inductive Kd where
  | none | bool | int | str | tuple | list | dict
noncomputable def Pc (H:Hp):Val -> Option Kd
  | .none=>some .none
  | .bool _=>some .bool
  | .int _=>some .int
  | .str _=>some .str
  | .tup _=>some .tuple
  | .script _=>some .list
  | .loc l =>
    match H[l]? with
    | some (.list _)=>some .list
    | some (.dict _)=>some .dict
    | _=>none
  | _=>none
noncomputable def Ys:Ty -> Kd -> Bool
  | .int,.int=>true
  | .int,.bool=>true
  | .bool,.bool=>true
  | .str,.str=>true
  | .tuple,.tuple=>true
  | .list,.list=>true
  | _,_=>false
noncomputable def Bh (T:Tab) (v:Val) (t:Ty):M Val:=.look fun H =>
  match t with
  | .cls d =>
    match v with
    | .exc c=>if T.isExc c=true then some (.bool (T.sub c d)) else none
    | _=>none
  | t=>(Pc H v).map fun k=>.bool (Ys t k)
noncomputable def I7 (v:Val) (n:Nat):M Val:=.look fun H =>
  match v with
  | .loc l =>
    match H[l]? with
    | some (.inst _ fs)=>fs.lookup n
    | _=>none
  | _=>none
noncomputable def Rx:List (Nat × Val) -> Nat -> Val -> List (Nat × Val)
  | [],n,v=>[(n,v)]
  | (m,u) :: r,n,v=>if m=n then (m,v) :: r else (m,u) :: Rx r n v
theorem Mv {m:Nat} {u:Val} {r:List (Nat × Val)} {n:Nat} {v:Val}:Rx ((m,u) :: r) n v=if m=n then (m,v) :: r else (m,u) :: Rx r n v:=rfl
noncomputable def Bx (o:Val) (n:Nat) (v:Val):M Unit:=fun H =>
  match o with
  | .loc l =>
    match H[l]? with
    | some (.inst c fs)=>.ok () (H.set l (.inst c (Rx fs n v)))
    | _=>.bad
  | _=>.bad
noncomputable def Ax (o i v:Val):M Unit:=fun H =>
  match o with
  | .loc l =>
    match H[l]? with
    | some (.list xs) =>
      match i with
      | .int k=>if 0 <= k /\ k < xs.length then .ok () (H.set l (.list (xs.set k.toNat v))) else .bad
      | _=>.bad
    | some (.dict es) =>
      match Ef i with
      | some k=>if es.length < lid then .ok () (H.set l (.dict (Fb es k v))) else .bad
      | none=>.bad
    | _=>.bad
  | _=>.bad
noncomputable def Pd:BM -> String
  | .append=>"list"
  | .pop=>"list"
  | .dpop=>"dict"
  | .clear=>"list"
  | .rstrip=>"str"
noncomputable def Jp (o:Val) (H:Hp):Option String :=
  match o with
  | .str _=>some "str"
  | .loc l =>
    match H[l]? with
    | some (.list _)=>some "list"
    | some (.dict _)=>some "dict"
    | _=>none
  | _=>none
noncomputable def E2 (m:BM) (o:Val) (H:Hp):Option Unit:=if Jp o H=some (Pd m) then some () else none
noncomputable def C8:Val -> M Bool
  | .bool b=>.ret b
  | _=>.bad
noncomputable abbrev Env':=List (Option Val)
noncomputable abbrev Funs:=Nat -> List Val -> M Val
noncomputable def Fe (chk:Hp -> Bool) (step:Val -> M (Option Val)):List Val -> M (List Val)
  | []=>fun H=>if chk H=true then .ok [] H else .bad
  | x :: xs=>fun H=>if chk H=true then ((step x).bnd fun r=>(Fe chk step xs).bnd fun ys=>.ret (match r with | some y=>y :: ys | none=>ys)) H else .bad
noncomputable def Qk (T:Tab) (Φ:Funs) (c:Nat) (args:List Val):M Val :=
  match T.meth c 0 with
  | some k=>(M.alloc (.inst c [])).bnd fun o=>(Φ k (o :: args)).bnd fun r=>match r with
    | .none=>.ret o
    | _=>.bad
  | none=>.bad
noncomputable def C3 (T:Tab) (o:Val) (m:Nat):M Nat:=.look fun H =>
  match o with
  | .loc l =>
    match H[l]? with
    | some (.inst c _)=>T.meth c m
    | _=>none
  | _=>none
mutual
noncomputable def Am (T:Tab) (Φ:Funs):ME -> Env' -> M Val
  | .none,_=>.ret .none
  | .bool b,_=>.ret (.bool b)
  | .int i,_=>.ret (.int i)
  | .str s,_=>.ret (.str s)
  | .glob k,_=>.ofOpt T.globs[k]?
  | .var i,Γ=>.ofOpt (match Γ[i]? with | some (some v)=>some v | _=>none)
  | .bin op a b,Γ=>(Am T Φ a Γ).bnd fun x=>(Am T Φ b Γ).bnd fun y=>Adc op x y
  | .neg a,Γ=>(Am T Φ a Γ).bnd fun x=>match x with
    | .int i=>.ret (.int (-i))
    | _=>.bad
  | .not a,Γ=>(Am T Φ a Γ).bnd fun x=>(C8 x).bnd fun b=>.ret (.bool (!b))
  | .and a b,Γ=>(Am T Φ a Γ).bnd fun x=>(C8 x).bnd fun t=>match t with
    | true=>Am T Φ b Γ
    | false=>.ret (.bool false)
  | .or a b,Γ=>(Am T Φ a Γ).bnd fun x=>(C8 x).bnd fun t=>match t with
    | true=>.ret (.bool true)
    | false=>Am T Φ b Γ
  | .cmp op a b,Γ=>(Am T Φ a Γ).bnd fun x=>(Am T Φ b Γ).bnd fun y=>(M.look (Dy op x y)).bnd fun r=>.ret (.bool r)
  | .cmp2 op1 op2 a b c,Γ=>(Am T Φ a Γ).bnd fun x=>(Am T Φ b Γ).bnd fun y=>(M.look (Dy op1 x y)).bnd fun r=>match r with
    | true=>(Am T Φ c Γ).bnd fun z=>(M.look (Dy op2 y z)).bnd fun r=>.ret (.bool r)
    | false=>.ret (.bool false)
  | .sub a i,Γ=>(Am T Φ a Γ).bnd fun x=>(Am T Φ i Γ).bnd fun y=>C5 x y
  | .slice a lo hi,Γ=>(Am T Φ a Γ).bnd fun x=>(evalO T Φ lo Γ).bnd fun l=>(evalO T Φ hi Γ).bnd fun h=>Gr x l h
  | .tup es,Γ=>(evalEs T Φ es Γ).bnd fun vs=>.ret (.tup vs)
  | .list es,Γ=>(evalEs T Φ es Γ).bnd fun vs=>M.alloc (.list vs)
  | .dict,_=>M.alloc (.dict [])
  | .attr a n,Γ=>(Am T Φ a Γ).bnd fun x=>I7 x n
  | .call f es,Γ=>(evalEs T Φ es Γ).bnd fun vs=>Φ f vs
  | .new c es,Γ=>match T.meth c 0 with
    | some _=>(evalEs T Φ es Γ).bnd fun vs=>Qk T Φ c vs
    | none=>M.bad
  | .umeth a m es,Γ=>(Am T Φ a Γ).bnd fun o=>(C3 T o m).bnd fun k=>(evalEs T Φ es Γ).bnd fun vs=>Φ k (o :: vs)
  | .bf f es,Γ=>(evalEs T Φ es Γ).bnd fun vs=>bfV f vs
  | .bm a m es,Γ=>(Am T Φ a Γ).bnd fun o=>(M.look (E2 m o)).bnd fun _=>(evalEs T Φ es Γ).bnd fun vs=>bmV m o vs
  | .isinst a t,Γ=>(Am T Φ a Γ).bnd fun x=>Bh T x t
  | .comp elt it cond,Γ=>(Am T Φ it Γ).bnd fun v=>(M.look (Cr v)).bnd fun p =>
      (M.quiet (Fe (chk p.2 p.1) (fun x=>(evalC T Φ cond (Γ++[some x])).bnd fun b=>match b with
        | true=>(Am T Φ elt (Γ++[some x])).bnd fun y=>.ret (some y)
        | false=>.ret none) p.1)).bnd fun ys=>if ys.length < lid then M.alloc (.list ys) else .bad
noncomputable def evalO (T:Tab) (Φ:Funs):MEo -> Env' -> M Val
  | .none,_=>.ret .none
  | .some e,Γ=>Am T Φ e Γ
noncomputable def evalC (T:Tab) (Φ:Funs):MEo -> Env' -> M Bool
  | .none,_=>.ret true
  | .some e,Γ=>(Am T Φ e Γ).bnd C8
noncomputable def evalEs (T:Tab) (Φ:Funs):MEs -> Env' -> M (List Val)
  | .nil,_=>.ret []
  | .cons e es,Γ=>(Am T Φ e Γ).bnd fun v=>(evalEs T Φ es Γ).bnd fun vs=>.ret (v :: vs)
end
inductive ResS where
  | next (Γ:Env') (H:Hp)
  | ret (v:Val) (H:Hp)
  | exc (c:Nat) (Γ:Env') (H:Hp)
  | bad
noncomputable def Hf {α:Type} (m:M α) (Γ:Env') (f:α -> Hp -> ResS) (H:Hp):ResS :=
  match m H with
  | .ok a H'=>f a H'
  | .exc c H'=>.exc c Γ H'
  | .bad=>.bad
noncomputable def Mw (r:ResS) (f:Env' -> Hp -> ResS):ResS :=
  match r with
  | .next Γ H=>f Γ H
  | .ret v H=>.ret v H
  | .exc c Γ H=>.exc c Γ H
  | .bad=>.bad
noncomputable def Ff (chk:Hp -> Bool) (bind:Val -> Env' -> Option Env') (body:Env' -> Hp -> ResS):List Val -> Env' -> Hp -> ResS
  | [],Γ,H=>if chk H=true then .next Γ H else .bad
  | x :: xs,Γ,H=>if chk H=true then (match bind x Γ with
    | some Γ'=>Mw (body Γ' H) (Ff chk bind body xs)
    | none=>.bad) else .bad
noncomputable def Iy (cond:Env' -> M Bool) (body:Env' -> Hp -> ResS):Nat -> Env' -> Hp -> ResS
  | 0,_,_=>.bad
  | n+1,Γ,H =>
    match cond Γ H with
    | .ok true H' =>
      match body Γ H' with
      | .next Γ' H''=>Iy cond body n Γ' H''
      | .ret v H''=>.ret v H''
      | _=>.bad
    | .ok false H'=>.next Γ H'
    | _=>.bad
theorem Mx {chk:Hp -> Bool} {bind:Val -> Env' -> Option Env'} {body:Env' -> Hp -> ResS} {Γ:Env'} {H:Hp}:Ff chk bind body [] Γ H=if chk H=true then .next Γ H else .bad:=rfl
theorem Ky {chk:Hp -> Bool} {bind:Val -> Env' -> Option Env'} {body:Env' -> Hp -> ResS} {x:Val} {xs:List Val} {Γ:Env'} {H:Hp}:Ff chk bind body (x :: xs) Γ H=if chk H=true then (match bind x Γ with
    | some Γ'=>Mw (body Γ' H) (Ff chk bind body xs)
    | none=>.bad) else .bad:=rfl
theorem Jq {cond:Env' -> M Bool} {body:Env' -> Hp -> ResS} {n:Nat} {Γ:Env'} {H:Hp}:Iy cond body (n+1) Γ H=(match cond Γ H with
    | .ok true H' =>
      match body Γ H' with
      | .next Γ' H''=>Iy cond body n Γ' H''
      | .ret v H''=>.ret v H''
      | _=>.bad
    | .ok false H'=>.next Γ H'
    | _=>.bad):=rfl
noncomputable def Ql:Nat:=2 ^ 40
noncomputable def N5 (i:Nat) (v:Val) (Γ:Env'):Option Env':=some (Γ.set i (some v))
noncomputable def Aab (i j:Nat) (v:Val) (Γ:Env'):Option Env':=(Adb v).map fun p=>(Γ.set i (some p.1)).set j (some p.2)
noncomputable def Jr (v:Val) (H:Hp):Option (List Val × Nat) :=
  match v with
  | .loc l =>
    match H[l]? with
    | some (.list xs)=>some (xs,l)
    | _=>none
  | _=>none
mutual
noncomputable def Dg (T:Tab) (Φ:Funs):MS -> Env' -> Hp -> ResS
  | .expr e,Γ,H=>Hf (Am T Φ e Γ) Γ (fun _ H=>.next Γ H) H
  | .assign i e,Γ,H=>Hf (Am T Φ e Γ) Γ (fun v H=>.next (Γ.set i (some v)) H) H
  | .setattr o n e,Γ,H=>Hf (Am T Φ e Γ) Γ (fun v=>Hf (Am T Φ o Γ) Γ fun o=>Hf (Bx o n v) Γ fun _ H=>.next Γ H) H
  | .setitem o i e,Γ,H=>Hf (Am T Φ e Γ) Γ (fun v=>Hf (Am T Φ o Γ) Γ fun o=>Hf (Am T Φ i Γ) Γ fun i=>Hf (Ax o i v) Γ fun _ H=>.next Γ H) H
  | .ret e,Γ,H=>Hf (evalO T Φ e Γ) Γ (fun v H=>.ret v H) H
  | .ite c t f,Γ,H=>Hf ((Am T Φ c Γ).bnd C8) Γ (fun b=>match b with
    | true=>execSs T Φ t Γ
    | false=>execSs T Φ f Γ) H
  | .loop c body,Γ,H=>Iy (fun Γ=>(Am T Φ c Γ).bnd C8) (execSs T Φ body) Ql Γ H
  | .each i it body,Γ,H=>Hf (Am T Φ it Γ) Γ (fun v=>Hf (M.look (Cr v)) Γ fun p=>Ff (chk p.2 p.1) (N5 i) (execSs T Φ body) p.1 Γ) H
  | .eachPair i j it body,Γ,H=>Hf (Am T Φ it Γ) Γ (fun v=>Hf (M.look (Jr v)) Γ fun p=>Ff (chk (some p.2) p.1) (Aab i j) (execSs T Φ body) p.1 Γ) H
  | .raise c _,Γ,H=>if T.isExc c=true then .exc c Γ H else .bad
  | .tryx body hs,Γ,H =>
    match execSs T Φ body Γ H with
    | .exc c Γ' H'=>execH T Φ hs c Γ' H'
    | r=>r
noncomputable def execSs (T:Tab) (Φ:Funs):MSs -> Env' -> Hp -> ResS
  | .nil,Γ,H=>.next Γ H
  | .cons s ss,Γ,H=>Mw (Dg T Φ s Γ H) (execSs T Φ ss)
noncomputable def execH (T:Tab) (Φ:Funs):MHs -> Nat -> Env' -> Hp -> ResS
  | .nil,c,Γ,H=>.exc c Γ H
  | .cons d i body hs,c,Γ,H =>
    if (T.isExc c && T.isExc d && calmSs (Fr T) body)=false then .bad else if T.sub c d=true then
      match execSs T Φ body (match i with | some i=>Γ.set i (some (.exc c)) | none=>Γ) H with
      | .ret v H'=>.ret v H'
      | _=>.bad
    else execH T Φ hs c Γ H
end
noncomputable def Aac:ResS -> Res Val
  | .next _ H'=>.ok .none H'
  | .ret v H'=>.ok v H'
  | .exc c _ H'=>.exc c H'
  | .bad=>.bad
noncomputable def runF (T:Tab) (Φ:Funs) (f:MFun) (args:List Val):M Val:=fun H =>
  if args.length=f.arity then Aac (execSs T Φ f.body (args.map some++List.replicate f.nvars none) H) else .bad
noncomputable def Af (T:Tab):Nat -> Funs
  | 0,_,_=>.bad
  | d+1,k,args =>
    match T.funs[k]? with
    | none=>.bad
    | some f=>runF T (Af T d) f args
theorem Qm {T:Tab} {d k:Nat} {args:List Val}:Af T (d+1) k args=(match T.funs[k]? with
    | none=>.bad
    | some f=>runF T (Af T d) f args):=rfl
theorem Aad {T:Tab} {Φ:Funs} {Γ:Env'} (k):Am T Φ (.glob k) Γ=(.ofOpt T.globs[k]?):=rfl
theorem Adk {T:Tab} {Φ:Funs} {Γ:Env'} (i):Am T Φ (.var i) Γ=(.ofOpt (match Γ[i]? with | some (some v)=>some v | _=>none)):=rfl
theorem Adl {T:Tab} {Φ:Funs} {Γ:Env'} (a):Am T Φ (.not a) Γ=((Am T Φ a Γ).bnd fun x=>(C8 x).bnd fun b=>.ret (.bool (!b))):=rfl
theorem Adm {T:Tab} {Φ:Funs} {Γ:Env'} (a b):Am T Φ (.and a b) Γ=((Am T Φ a Γ).bnd fun x=>(C8 x).bnd fun t=>match t with
    | true=>Am T Φ b Γ
    | false=>.ret (.bool false)):=rfl
theorem Afv {T:Tab} {Φ:Funs} {Γ:Env'} (a b):Am T Φ (.or a b) Γ=((Am T Φ a Γ).bnd fun x=>(C8 x).bnd fun t=>match t with
    | true=>.ret (.bool true)
    | false=>Am T Φ b Γ):=rfl
theorem Adn {T:Tab} {Φ:Funs} {Γ:Env'} (op a b):Am T Φ (.cmp op a b) Γ=((Am T Φ a Γ).bnd fun x=>(Am T Φ b Γ).bnd fun y=>(M.look (Dy op x y)).bnd fun r=>.ret (.bool r)):=rfl
theorem Rz {T:Tab} {Φ:Funs} {Γ:Env'} (op1 op2 a b c):Am T Φ (.cmp2 op1 op2 a b c) Γ=((Am T Φ a Γ).bnd fun x=>(Am T Φ b Γ).bnd fun y=>(M.look (Dy op1 x y)).bnd fun r=>match r with
    | true=>(Am T Φ c Γ).bnd fun z=>(M.look (Dy op2 y z)).bnd fun r=>.ret (.bool r)
    | false=>.ret (.bool false)):=rfl
theorem Js {T:Tab} {Φ:Funs} {Γ:Env'} (f es):Am T Φ (.call f es) Γ=((evalEs T Φ es Γ).bnd fun vs=>Φ f vs):=rfl
theorem My {T:Tab} {Φ:Funs} {Γ:Env'} (c es):Am T Φ (.new c es) Γ=(match T.meth c 0 with
    | some _=>(evalEs T Φ es Γ).bnd fun vs=>Qk T Φ c vs
    | none=>M.bad):=rfl
theorem Hg {T:Tab} {Φ:Funs} {Γ:Env'} (a m es):Am T Φ (.umeth a m es) Γ=((Am T Φ a Γ).bnd fun o=>(C3 T o m).bnd fun k=>(evalEs T Φ es Γ).bnd fun vs=>Φ k (o :: vs)):=rfl
theorem R6 {T:Tab} {Φ:Funs} {Γ:Env'} (f es):Am T Φ (.bf f es) Γ=((evalEs T Φ es Γ).bnd fun vs=>bfV f vs):=rfl
theorem R7 {T:Tab} {Φ:Funs} {Γ:Env'} (a m es):Am T Φ (.bm a m es) Γ=((Am T Φ a Γ).bnd fun o=>(M.look (E2 m o)).bnd fun _=>(evalEs T Φ es Γ).bnd fun vs=>bmV m o vs):=rfl
theorem Fw {T:Tab} {Φ:Funs} {Γ:Env'} (a t):Am T Φ (.isinst a t) Γ=((Am T Φ a Γ).bnd fun x=>Bh T x t):=rfl
theorem R8 {T:Tab} {Φ:Funs} {Γ:Env'} {H:Hp} (i e):Dg T Φ (.assign i e) Γ H=(Hf (Am T Φ e Γ) Γ (fun v H=>.next (Γ.set i (some v)) H) H):=rfl
theorem Aae {T:Tab} {Φ:Funs} {Γ:Env'} {H:Hp} (c body):Dg T Φ (.loop c body) Γ H=(Iy (fun Γ=>(Am T Φ c Γ).bnd C8) (execSs T Φ body) Ql Γ H):=rfl
theorem V7 {T:Tab} {Φ:Funs} {Γ:Env'} {H:Hp} (c m):Dg T Φ (.raise c m) Γ H=(if T.isExc c=true then .exc c Γ H else .bad):=rfl
theorem V8 {T:Tab} {Φ:Funs} {Γ:Env'} (e es):evalEs T Φ (.cons e es) Γ=((Am T Φ e Γ).bnd fun v=>(evalEs T Φ es Γ).bnd fun vs=>.ret (v :: vs)):=rfl
end
end Mine.Internal
namespace Mine.Internal
open PySem
theorem Jt {v:Val} {i:Int} (h:Ada v=some i):v=.int i:=by
  cases v with
  | int j=>exact congrArg _ (Option.some.inj h)
  | _=>exact Ae h
theorem N6 {v:Val} {p:Val × Val} (h:Adb v=some p):v=.tup [p.1,p.2]:=by
  cases v with
  | tup vs =>
    cases vs with
    | nil=>exact Ae h
    | cons x vs =>
      cases vs with
      | nil=>exact Ae h
      | cons y vs =>
        cases vs with
        | nil=>exact Option.some.inj h▸rfl
        | cons _ _=>exact Ae h
  | _=>exact Ae h
theorem Aaf {v:Val} {i:List Val} (h:Ahw v=some i):v=.tup i:=by
  cases v with
  | tup j=>exact congrArg _ (Option.some.inj h)
  | _=>exact Ae h
theorem Ado {a:Val} {k:Key} (h:Ef a=some k):a=.tup [.int k.1,.int k.2]:=by
  refine ex1 (Option.bind_eq_some_iff.mp h) fun p zz=>Ad zz fun e h=>?_
  refine ex1 (Option.bind_eq_some_iff.mp h) fun x zz=>Ad zz fun e1 h=>?_
  refine ex1 (Option.map_eq_some_iff.mp h) fun y zz=>Ad zz fun e2 h=>?_
  have q:Val.tup [p.1,p.2]=.tup [.int x,.int y]:=Jt e1▸Jt e2▸rfl
  exact h▸(N6 e).trans q
theorem R9 {f:Val -> Option PyData} {x:Val} {xs:List Val} {ds:List PyData} {C:List PyData -> Prop} (h:Jo f (x :: xs)=some ds) (k:∀ d ds',f x=some d -> Jo f xs=some ds' -> C (d :: ds')):C ds:=by
  have h:(match f x,Jo f xs with
    | some d,some ds=>some (d :: ds)
    | _,_=>none)=some ds:=h
  cases e1:f x with
  | none=>rw [e1] at h;exact Ae h
  | some d =>
    cases e2:Jo f xs with
    | none=>rw [e1,e2] at h;exact Ae h
    | some ds'=>rw [e1,e2] at h;exact Option.some.inj h▸k d ds' e1 e2
theorem V9 {H:Hp} {a b:Val} {r:Bool} {C:Bool -> Prop} (h:Gq H a b=some r) (k:∀ x y,A6 H Gp a=some x -> A6 H Gp b=some y -> C (PyData.eqv x y)):C r:=by
  delta Gq at h
  cases e1:A6 H Gp a with
  | none=>rw [e1] at h;exact Ae h
  | some d =>
    cases e2:A6 H Gp b with
    | none=>rw [e1,e2] at h;exact Ae h
    | some ds'=>rw [e1,e2] at h;exact Option.some.inj h▸k d ds' e1 e2
theorem Adp {H:Hp} {x:Val} {ys:List Val} {r:Bool} {C:Bool -> Prop} (h:Pb H x ys=some r) (k:∀ d ds,A6 H Gp x=some d -> Jo (A6 H Gp) ys=some ds -> C (ds.any fun y=>PyData.eqv y d)):C r:=by
  delta Pb at h
  cases e1:A6 H Gp x with
  | none=>rw [e1] at h;exact Ae h
  | some d =>
    cases e2:Jo (A6 H Gp) ys with
    | none=>rw [e1,e2] at h;exact Ae h
    | some ds'=>rw [e1,e2] at h;exact Option.some.inj h▸k d ds' e1 e2
theorem Wa {e f:Val -> Val -> Option Bool} {x y:Val} {xs ys:List Val} {r:Bool} (h:lts e f (x :: xs) (y :: ys)=some r):(e x y=some true /\ lts e f xs ys=some r) \/ (e x y=some false /\ f x y=some r):=by
  have h:(match e x y with
    | some true=>lts e f xs ys
    | some false=>f x y
    | none=>none)=some r:=h
  cases q:e x y with
  | none=>rw [q] at h;exact Ae h
  | some b =>
    rw [q] at h
    cases b with
    | true=>exact .inl ⟨rfl,h⟩
    | false=>exact .inr ⟨rfl,h⟩
theorem Afw {n:Nat} {a b:Val} {r:Bool} {C:Val -> Val -> Bool -> Prop} (h:N3 (n+1) a b=some r) (k1:∀ x y,C (.int x) (.int y) (decide (x < y))) (k2:∀ xs ys,lts (Gq []) (N3 n) xs ys=some r -> C (.tup xs) (.tup ys) r):C a b r:=by
  cases a with
  | int x =>
    refine ex1 (Option.map_eq_some_iff.mp h) fun y zz=>Ad zz fun e h=>?_
    exact Jt e▸h▸k1 x y
  | tup xs =>
    refine ex1 (Option.bind_eq_some_iff.mp h) fun ys zz=>Ad zz fun e h=>?_
    exact Aaf e▸k2 xs ys h
  | _=>exact Ae h
theorem Afx {H:Hp} {a:Val} {l:Nat} {r:Bool} {C:Bool -> Prop} (h:inV a (.loc l) H=some r) (k1:∀ ys,H[l]?=some (.list ys) -> Pb H a ys=some r -> C r) (k2:∀ es k,H[l]?=some (.dict es) -> Ef a=some k -> C (D5 es k).isSome):C r:=by
  delta inV at h
  dsimp only at h
  cases q:H[l]? with
  | none=>rw [q] at h;exact Ae h
  | some o =>
    rw [q] at h
    cases o with
    | list ys=>exact k1 ys q h
    | dict es =>
      dsimp only at h
      cases q2:Ef a with
      | none=>rw [q2] at h;exact Ae h
      | some k=>rw [q2] at h;exact Option.some.inj h▸k2 es k q q2
    | _=>exact Ae h
theorem Adq {a b:Val} {p:Int -> Int -> Bool} {r:Bool} {C:Val -> Val -> Bool -> Prop} (e:Afl p a b=some r) (k:∀ x y,C (.int x) (.int y) (p x y)):C a b r:=by
  refine ex1 (Option.bind_eq_some_iff.mp e) fun x zz=>Ad zz fun e1 e=>?_
  refine ex1 (Option.map_eq_some_iff.mp e) fun y zz=>Ad zz fun e2 e=>?_
  exact Jt e1▸Jt e2▸e▸k x y
theorem Ju {o:Option Bool} {r:Bool} (h:Yr true o=some r):∃ r',o=some r' /\ r=!r':=by
  cases o with
  | none=>exact Ae h
  | some b=>exact ⟨b,rfl,(Option.some.inj h).symm⟩
theorem Jv {H:Hp} {l:Nat} {xs:List Val} (h:Cc (.loc l) H=some xs):H[l]?=some (.list xs):=by
  delta Cc at h
  dsimp only at h
  cases q:H[l]? with
  | none=>rw [q] at h;exact Ae h
  | some o =>
    rw [q] at h
    cases o with
    | list ys=>cases h;rfl
    | _=>exact Ae h
theorem Wb {H:Hp} {l:Nat} {xs:List Val} {src:Option Nat} (h:Cr (.loc l) H=some (xs,src)):H[l]?=some (.list xs) /\ src=some l:=by
  delta Cr at h
  dsimp only at h
  cases q:H[l]? with
  | none=>rw [q] at h;exact Ae h
  | some o =>
    rw [q] at h
    cases o with
    | list ys =>
      have h:=Option.some.inj h
      exact ⟨congrArg (fun p=>some (HObj.list p.1)) h,(congrArg Prod.snd h).symm⟩
    | _=>exact Ae h
theorem Yt {l:Nat} {xs:List Val} {H:Hp} (h:chk (some l) xs H=true):H[l]?=some (.list xs):=by
  delta chk at h
  dsimp only at h
  cases q:H[l]? with
  | none=>rw [q] at h;exact Aq h
  | some o =>
    rw [q] at h
    cases o with
    | list ys=>exact congrArg (fun x=>some (HObj.list x)) (V5 _ _ h)
    | _=>exact Aq h
theorem Adr {H:Hp} {l:Nat} {xs:List Val} (h:H[l]?=some (.list xs)):chk (some l) xs H=true:=by
  delta chk;dsimp only;rw [h];exact Qj xs
theorem Afy {H:Hp} {l:Nat} {k:Kd} {C:Kd -> Prop} (h:Pc H (.loc l)=some k) (k1:∀ xs,H[l]?=some (.list xs) -> C .list) (k2:∀ xs,H[l]?=some (.dict xs) -> C .dict):C k:=by
  delta Pc at h
  dsimp only at h
  cases q:H[l]? with
  | none=>rw [q] at h;exact Ae h
  | some o =>
    rw [q] at h
    cases o with
    | list ys=>exact Option.some.inj h▸k1 ys q
    | dict ys=>exact Option.some.inj h▸k2 ys q
    | _=>exact Ae h
theorem Ads {H:Hp} {l:Nat} {xs:List Val} (h:H[l]?=some (.list xs)):Pc H (.loc l)=some .list:=by
  delta Pc;dsimp only;rw [h]
theorem Sa {H:Hp} {l:Nat} {xs:List Val} (h:H[l]?=some (.list xs)):Jr (.loc l) H=some (xs,l):=by
  delta Jr;dsimp only;rw [h]
theorem Jw {H:Hp} {l:Nat} {xs:List Val} (h:H[l]?=some (.list xs)):Jp (.loc l) H=some "list":=by
  delta Jp;dsimp only;rw [h]
theorem Sb {H:Hp} {l:Nat} {xs:List (Key × Val)} (h:H[l]?=some (.dict xs)):Jp (.loc l) H=some "dict":=by
  delta Jp;dsimp only;rw [h]
theorem Aag {H:Hp} {l:Nat} {k:String} {C:String -> Prop} (h:Jp (.loc l) H=some k) (k1:∀ xs,H[l]?=some (.list xs) -> C "list") (k2:∀ xs,H[l]?=some (.dict xs) -> C "dict"):C k:=by
  delta Jp at h
  dsimp only at h
  cases q:H[l]? with
  | none=>rw [q] at h;exact Ae h
  | some o =>
    rw [q] at h
    cases o with
    | list ys=>exact Option.some.inj h▸k1 ys q
    | dict ys=>exact Option.some.inj h▸k2 ys q
    | _=>exact Ae h
theorem Jb {H:Hp} {l:Nat} {xs:List Val} (h:H[l]?=some (.list xs)):Cc (.loc l) H=some xs:=by
  delta Cc;dsimp only;rw [h]
theorem Sc {H:Hp} {l:Nat} {xs:List Val} (h:H[l]?=some (.list xs)):Cr (.loc l) H=some (xs,some l):=by
  delta Cr;dsimp only;rw [h]
end Mine.Internal
set_option maxRecDepth 100000
namespace Mine.Internal
open PySem PySem.W PySem.Spec PySem.Calls PyProof.Rows
structure ExcK (K:Frag) (D:Addr):Prop where
  ga:findIn K (.ref D) "__getattribute__"=some (some (.builtin "BaseException.__getattribute__"))
  gt:findIn K (.ref D) "__getattr__"=some none
  mb:mroIn K D (.type "BaseException")=some true
  hd:hasDictIn K D=true
  fc:findIn K (.ref D) "__class__"=some (some (.builtin "object.__class__"))
  sg:specialIn K (.builtin "object.__class__") "__get__"=some (some (.builtin "getset_descriptor.__get__"))
  tk:takesIn K (.builtin "object.__class__")=some true
  mo:mroIn K D (.type "object")=some true
section
variable {prog:Program} {w:World} {A:Around} {E:Value -> Shared -> Prop} {s:Shared} {K:Frag} {x D:Addr} {ox:Obj}
theorem Yu:Slot "ValueError" "__getattribute__" "BaseException.__getattribute__":=F.excAttr_ValueError.ga
theorem exc_check {M:Model} {nameV:Value} {Q:Unit -> Shared -> Prop} (k:ExcK K D) (X:K.In s.heap) (I:InstAt s.heap x ox D none) (h:Q () s) :
    wpAny M A (checkBuiltinCall "BaseException.__getattribute__" ⟨[.ref x,nameV],[]⟩) Q E s:=by
  obtain ⟨hh,g,d,t,os⟩:=s
  have hk:builtinKind "BaseException.__getattribute__"=some .slot:=by decide +kernel
  have hsplit:splitId "BaseException.__getattribute__"=some ("BaseException","__getattribute__"):=by decide +kernel
  have ha:=F.args_bexc_ga (.ref x) nameV
  have LI:Looks M hh (isInstance (.ref x) (.type "BaseException")) true:=(I.type (M:=M)).andThen (looks_mroIn (M:=M) X k.mb)
  simp only [checkBuiltinCall,hk,hsplit]
  refine wpAny_bind (LI.at ?_)
  repeat (first | exact h | wp_step)
theorem Sd {tk:Tok} {Q:Fin -> Shared -> Prop} (k:ExcK K D) (X:K.In s.heap) (I:InstAt s.heap x ox D none) (h:Q (.done (.ret (.ref D))) s) :
    wpAny (model prog w) A (Builtin.«object.__getattribute__» ⟨[.ref x,.str "__class__" tk],[]⟩) Q E s:=by
  have hc:(clsIn K D).isSome=true:=by refine ex1 (any_some k.hd) fun cd zz=>Ad zz fun hc _=>?_;rw [hc];rfl
  have hf:findObj K D none "__class__"=some (.bind (.builtin "getset_descriptor.__get__") (.builtin "object.__class__")):=by
    obtain ⟨cd,hc⟩:=Option.isSome_iff_exists.mp hc
    delta findObj
    rw [hc,Option.bind_some,k.fc,Option.bind_some]
    show (specialIn K _ _).bind _=_
    rw [k.sg,Option.bind_some]
    show (takesIn K _).bind _=_
    rw [k.tk]
    rfl
  have L0:=I.type (M:=model prog w)
  have L1:=looks_find (M:=model prog w) X I hf
  unfold Builtin.«object.__getattribute__»
  refine wpAny_bind (wpAny_pure (wpAny_bind (wpAny_pure (wpAny_bind (L0.at (wpAny_bind (L1.at ?_)))))))
  exact wpAny_bind (wpAny_holding (wpAny_call (class_get (ox:=ox) (od:=none) X I k.mo (wpAny_pure h))))
theorem Qn {Q:Option Value -> Shared -> Prop} (k:ExcK K D) (X:K.In s.heap) (I:InstAt s.heap x ox D none) (h:Q (some (.ref D)) { s with toks:=s.toks+1 }):wpAny (model prog w) A (getAttr? (.ref x) "__class__") Q E s:=by
  obtain ⟨hh,g,d,t,os⟩:=s
  have L0:=I.type (M:=model prog w)
  have L1:=looks_findIn (M:=model prog w) X k.ga
  have L2:=looks_findIn (M:=model prog w) X k.gt
  unfold getAttr? getAttrBy? getAttrBy
  refine wpAny_bind (wpAny_mkText (wpAny_bind (wpAny_attempt (wpAny_holding (wpAny_bind (L0.at (wpAny_bind (L1.at ?_))))))))
  unfold getAttrByItsOwn
  refine wpAny_bind ?_
  refine L2.at ?_
  refine wpAny_bind (wpAny_attempt (wpAny_holding ?_))
  show wpAny _ _ (boundAndCalled _ _ _) _ _ _
  unfold boundAndCalled
  refine wpAny_bind (wpAny_of_eq (Yu.bind (.ref x)) ?_)
  refine wpAny_call (codeAny_call_builtin Yu.plain F.entry_bexc_ga (exc_check k X I (Sd k X I ?_)))
  exact handed_on rfl (wpAny_pure h)
theorem Kz {D:Addr} {M:Model} {h:Heap} (hc:(clsIn K D).isSome=true) (X:K.In h):Looks M h (isType (.ref D)) true:=by
  delta clsIn at hc
  cases ho:K.lookup D with
  | none=>rw [ho] at hc;exact nomatch hc
  | some o =>
    rw [ho] at hc
    obtain ⟨c,d,data,sl⟩:=o
    cases data with
    | cls cd =>
      intro A' Q' E' s' k q
      unfold isType loadHead
      exact wpAny_bind (wpAny_loadPart (k _ _ (X _ _ ho)) (wpAny_pure q))
    | _=>exact nomatch hc
theorem N7 {c:Value} {dep:Int} {tk:Tok} {b:Bool} {Q:Fin -> Shared -> Prop} (k:ExcK K D) (X:K.In s.heap) (I:InstAt s.heap x ox D none) (hty:Looks (model prog w) s.heap (typeOf c) (.type "type")) (his:Looks (model prog w) s.heap (isType c) true)
    (hself:(Value.ref D == c)=true -> b=true) (hsub:Looks (model prog w) s.heap (isSubtype (.ref D) c) b) (h:∀ tk,Q (.done (.ret (.bool b))) { s with toks:=tk }) :
    wpAny (model prog w) A (Builtin.«isinstance.nested» ⟨[.ref x,c,.int dep tk],[]⟩) Q E s:=by
  have hisD:Looks (model prog w) s.heap (isType (.ref D)) true:=Kz (by refine ex1 (any_some k.hd) fun cd zz=>Ad zz fun hc _=>?_;rw [hc];rfl) X
  obtain ⟨h0,g,d,tt,os⟩:=s
  have L0:=I.type (M:=model prog w)
  have LI:Looks (model prog w) h0 (isInstance (.ref x) c) b:=L0.andThen hsub
  unfold Builtin.«isinstance.nested»
  refine wpAny_bind (L0.at ?_)
  by_cases q:(Value.ref D == c)=true
  · rw [if_pos q]
    have hb:=hself q
    subst hb
    exact wpAny_bind (wpAny_rule (wpAny_bind (wpAny_pure (wpAny_pure (h tt)))))
  rw [if_neg q]
  refine wpAny_bind (hty.at ?_)
  k_delta "plainIsInstance"
  refine wpAny_bind (wpAny_bind (his.at ?_))
  simp only [Bool.not_true,Bool.false_eq_true,if_false]
  refine wpAny_bind (LI.at ?_)
  cases b with
  | true =>
    simp only [if_true]
    first
      | exact wpAny_pure (h tt)
      | exact wpAny_pure (wpAny_pure (h tt))
      | exact wpAny_bind (wpAny_pure (wpAny_pure (h tt)))
  | false =>
    simp only [Bool.false_eq_true,if_false]
    refine wpAny_bind (Qn k X I ?_)
    refine wpAny_bind (hisD.at ?_)
    simp only [Bool.not_true,Bool.false_eq_true,if_false]
    refine wpAny_bind (wpAny_rule ?_)
    refine hsub.at ?_
    first
      | exact wpAny_pure (h _)
      | exact wpAny_pure (wpAny_pure (h _))
      | exact wpAny_bind (wpAny_pure (wpAny_pure (h _)))
theorem Se {c:Value} {b:Bool} {Q:Value -> Shared -> Prop} (k:ExcK K D) (X:K.In s.heap) (I:InstAt s.heap x ox D none) (hty:∀ (M:Model) h',K.In h' -> Looks M h' (typeOf c) (.type "type")) (his:∀ (M:Model) h',K.In h' -> Looks M h' (isType c) true)
    (hself:(Value.ref D == c)=true -> b=true) (hsub:∀ (M:Model) h',K.In h' -> Looks M h' (isSubtype (.ref D) c) b) (h:∀ tk,Q (.bool b) { s with toks:=tk }):wpAny (model prog w) A (call (.builtin "isinstance") [.ref x,c]) Q E s :=
  call_isinstance (S:=fun _ R s=>(K.In s.heap /\ InstAt s.heap x ox D none) /\ ∀ tk,R (.ok (.ret (.bool b))) { s with toks:=tk })
    (fun _ _ _ _ _ hs=>isinstance_outer (N7 k hs.1.1 hs.1.2 (hty _ _ hs.1.1) (his _ _ hs.1.1) hself (hsub _ _ hs.1.1) hs.2) (by intro q;cases q)) ⟨⟨X,I⟩,h⟩
end
noncomputable def Pe (K:Frag) (v:Value):Bool:=match v with
  | .ref a=>(clsIn K a).isSome && typeIn K (.ref a) == some (.type "type")
  | .type T=>decide (T="ValueError")
  | _=>false
theorem Mz {K:Frag} {v:Value} (h:Pe K v=true) {M:Model} {g:Heap} (X:K.In g):Looks M g (typeOf v) (.type "type") /\ Looks M g (isType v) true:=by
  cases v with
  | ref a =>
    have h:=(Bool.and_eq_true _ _).mp h
    exact ⟨looks_typeIn X (beq_iff_eq.mp h.2),Kz h.1 X⟩
  | type T =>
    have h:T="ValueError":=of_decide_eq_true h
    subst h
    exact ⟨Looks.of_pure (by kernel_rfl),Looks.of_pure rfl⟩
  | _=>cases h
end Mine.Internal
namespace Mine.Internal
open PySem
noncomputable abbrev Rho:=List (Addr × Addr)
noncomputable def A1 (ρ:Rho) (a:Addr):Prop:=∃ p∈ρ,a=p.1 \/ a=p.2
noncomputable def Ks (ρ:Rho) (h:Heap) (ρ':Rho):Prop:=∃ e,ρ'=ρ++e /\ ∀ p∈e,h.get? p.1=none /\ h.get? p.2=none
noncomputable def Fh (h h':Heap):Prop:=∀ b o,h.get? b=some o -> ∃ o',h'.get? b=some o'
theorem Fh.refl (h:Heap):Fh h h:=fun _ o e=>⟨o,e⟩
theorem Fh.trans {h h' h'':Heap} (x:Fh h h') (y:Fh h' h''):Fh h h'':=fun b o e=>let ⟨o',e'⟩:=x b o e;y b o' e'
theorem Fh.none {h h':Heap} (x:Fh h h') {a:Addr} (e:h'.get? a=none):h.get? a=none:=by
  cases q:h.get? a with
  | none=>rfl
  | some o=>obtain ⟨o',e'⟩:=x a o q;rw [e] at e';exact Ae e'
theorem Ar (h:Heap):h.get? h.objs.size=none:=by
  cases q:h.get? h.objs.size with
  | none=>rfl
  | some o=>exact absurd (Heap.lt_size q) (Nat.lt_irrefl _)
theorem Hh {h:Heap} {a:Addr} (z:h.objs.size <= a):h.get? a=none:=by
  cases q:h.get? a with
  | none=>rfl
  | some o=>exact absurd (Heap.lt_size q) (Nat.not_lt.mpr z)
noncomputable def Eg (o o':Obj):Prop:=o'=o \/ ((∃ es n,o.data=.dict es n) /\ o'={ o with slots:=o'.slots })
theorem Eg.refl (o:Obj):Eg o o:=.inl rfl
theorem Eg.trans {o o' o'':Obj} (x:Eg o o') (y:Eg o' o''):Eg o o'':=by
  rcases x with rfl | ⟨c,e⟩
  · exact y
  · rcases y with rfl | ⟨_,e'⟩
    · exact .inr ⟨c,e⟩
    · exact .inr ⟨c,by rw [e',e]⟩
theorem Eg.exact {o o':Obj} (x:Eg o o') (n:∀ es n,o.data≠.dict es n):o'=o:=x.elim id fun ⟨⟨es,k,e⟩,_⟩=>absurd e (n es k)
theorem Eg.data {o o':Obj} (x:Eg o o'):o'.data=o.data:=by rcases x with rfl | ⟨_,e⟩;rfl;rw [e]
noncomputable def Afz (ρ:Rho) (h h':Heap):Prop:=∀ b o,h.get? b=some o -> ¬ A1 ρ b -> ∃ o',h'.get? b=some o' /\ Eg o o'
theorem Afz.exact {ρ:Rho} {h h':Heap} (k:Afz ρ h h') {b:Addr} {o:Obj} (e:h.get? b=some o) (n:¬ A1 ρ b) (c:∀ es n,o.data≠.dict es n):h'.get? b=some o:=by
  refine ex1 (k b o e n) fun o' zz=>Ad zz fun e' u=>?_
  rw [e',u.exact c]
noncomputable def Fx (o:Obj):Prop:=(o.cls=.type "tuple" /\ ∃ xs n,o.data=.seq xs n) \/ (o.cls=.type "range" /\ ∃ vs,o.data=.fields vs)
noncomputable def Dq (o:Obj) (C:Addr):Prop:=o.cls=.ref C /\ (∃ vs,o.data=.fields vs) /\ o.dict=none
theorem Fx.notDict {o:Obj} (f:Fx o) (es:Array DictEntry) (n:Nat):o.data≠.dict es n:=by
  rcases f with ⟨_,xs,k,e⟩ | ⟨_,vs,e⟩ <;> rw [e] <;> exact fun q=>nomatch q
theorem Dq.notDict {o:Obj} {C:Addr} (f:Dq o C) (es:Array DictEntry) (n:Nat):o.data≠.dict es n:=by
  refine Av f fun _ zn1 _=>?_;obtain ⟨vs,e⟩:=zn1
  rw [e];exact fun q=>nomatch q
theorem Ks.refl (ρ:Rho) (h:Heap):Ks ρ h ρ:=⟨[],by simp,by simp⟩
theorem Ks.owned {ρ ρ':Rho} {h:Heap} (g:Ks ρ h ρ') {a:Addr} (o:A1 ρ' a):A1 ρ a \/ h.get? a=none:=by
  refine ex1 g fun e zz=>Ad zz fun zr1 he=>?_;subst zr1
  refine ex1 o fun p zz=>Ad zz fun hp hpa=>?_
  rcases List.mem_append.mp hp with hp | hp
  · exact .inl ⟨p,hp,hpa⟩
  · right
    rcases hpa with rfl | rfl
    · exact (he p hp).1
    · exact (he p hp).2
theorem Ks.get {ρ ρ':Rho} {h:Heap} (g:Ks ρ h ρ') {l:Nat} {p:Addr × Addr} (e:ρ[l]?=some p):ρ'[l]?=some p:=by
  refine ex1 g fun e' zz=>Ad zz fun zr1 he=>?_;subst zr1
  obtain ⟨hl,_⟩:=List.getElem?_eq_some_iff.mp e
  rw [List.getElem?_append_left hl,e]
theorem Ks.not {ρ ρ':Rho} {h:Heap} (g:Ks ρ h ρ') {a:Addr} {o:Obj} (n:¬ A1 ρ a) (e:h.get? a=some o):¬ A1 ρ' a:=fun w=>by
  rcases g.owned w with w | w
  · exact n w
  · rw [e] at w;cases w
theorem Ks.trans {ρ ρ' ρ'':Rho} {h h':Heap} (x:Ks ρ h ρ') (y:Ks ρ' h' ρ'') (z:Fh h h'):Ks ρ h ρ'':=by
  refine ex1 x fun e1 zz=>Ad zz fun zr1 h1=>?_;subst zr1
  refine ex1 y fun e2 zz=>Ad zz fun zr1 h2=>?_;subst zr1
  refine ⟨e1++e2,by rw [List.append_assoc],fun p hp=>?_⟩
  rcases List.mem_append.mp hp with hp | hp
  · exact h1 p hp
  · exact ⟨z.none (h2 p hp).1,z.none (h2 p hp).2⟩
structure Step (ρ:Rho) (h:Heap) (ρ':Rho) (h':Heap):Prop where
  more:∃ e,ρ'=ρ++e
  keepT:∀ b o,h.get? b=some o -> Fx o -> ¬ A1 ρ b -> h'.get? b=some o /\ ¬ A1 ρ' b
  keepC:∀ b o C,h.get? b=some o -> Dq o C -> ¬ A1 ρ b -> ∃ o',h'.get? b=some o' /\ Dq o' C /\ ¬ A1 ρ' b
theorem Step.get {ρ ρ':Rho} {h h':Heap} (st:Step ρ h ρ' h') {l:Nat} {p:Addr × Addr} (e:ρ[l]?=some p):ρ'[l]?=some p:=by
  obtain ⟨e',rfl⟩:=st.more
  obtain ⟨hl,_⟩:=List.getElem?_eq_some_iff.mp e
  rw [List.getElem?_append_left hl,e]
structure Full (ρ:Rho) (h:Heap) (ρ':Rho) (h':Heap):Prop where
  grow:Ks ρ h ρ'
  keep:Afz ρ h h'
  live:Fh h h'
theorem Full.step {ρ ρ':Rho} {h h':Heap} (x:Full ρ h ρ' h'):Step ρ h ρ' h' :=
  ⟨let ⟨e,h1,_⟩:=x.grow;⟨e,h1⟩,fun b o e f n=>⟨x.keep.exact e n f.notDict,x.grow.not n e⟩,fun b o C e c n=>⟨o,x.keep.exact e n c.notDict,c,x.grow.not n e⟩⟩
theorem Full.refl (ρ:Rho) (h:Heap):Full ρ h ρ h:=⟨Ks.refl ρ h,fun _ o e _=>⟨o,e,.refl o⟩,.refl h⟩
theorem Step.refl (ρ:Rho) (h:Heap):Step ρ h ρ h:=(Full.refl ρ h).step
theorem Full.trans {ρ ρ' ρ'':Rho} {h h' h'':Heap} (x:Full ρ h ρ' h') (y:Full ρ' h' ρ'' h''):Full ρ h ρ'' h'' :=
  ⟨x.grow.trans y.grow x.live,fun b o e n=>by
      refine ex1 (x.keep b o e n) fun o' zz=>Ad zz fun e' u=>?_
      refine ex1 (y.keep b o' e' (x.grow.not n e)) fun o'' zz=>Ad zz fun e'' u'=>?_
      exact ⟨o'',e'',u.trans u'⟩,x.live.trans y.live⟩
theorem Full.more {ρ:Rho} {h h':Heap} (k:∀ b o,h.get? b=some o -> h'.get? b=some o):Full ρ h ρ h' :=
  ⟨Ks.refl ρ h,fun b o e _=>⟨o,k b o e,.refl o⟩,fun b o e=>⟨o,k b o e⟩⟩
theorem Full.push (ρ:Rho) (h:Heap) (o:Obj):Full ρ h ρ (h.push o):=Full.more fun _ _ e=>Heap.get?_push_of_some _ e
theorem Full.alloc {ρ:Rho} {h h':Heap} {p:Addr × Addr} (k:∀ b o,h.get? b=some o -> h'.get? b=some o) (hp:h.get? p.1=none /\ h.get? p.2=none):Full ρ h (ρ++[p]) h' :=
  ⟨⟨[p],rfl,fun q hq=>by rw [List.mem_singleton.mp hq];exact hp⟩,fun b o e _=>⟨o,k b o e,.refl o⟩,fun b o e=>⟨o,k b o e⟩⟩
theorem Step.ext {ρ:Rho} {h h':Heap} {a:Addr} {o:Obj} (e:h.get? a=some o) (hs:Heap.ExtBut a h h') (n1:¬ Fx o) (n2:∀ C,¬ Dq o C):Step ρ h ρ h' :=
  ⟨⟨[],by simp⟩,fun b ob eb f no=>⟨hs b ob (fun q=>by subst q;rw [e] at eb;cases eb;exact n1 f) eb,no⟩,
    fun b ob C eb c no=>⟨ob,hs b ob (fun q=>by subst q;rw [e] at eb;cases eb;exact n2 C c) eb,c,no⟩⟩
theorem SameBut.live {h h':Heap} {a:Addr} {o':Obj} (hs:Heap.SameBut a h h') (e':h'.get? a=some o'):Fh h h':=fun b o e=>by
  by_cases q:b=a
  · subst q;exact ⟨o',e'⟩
  · exact ⟨o,by rw [hs.2 b q];exact e⟩
theorem Step.but {ρ:Rho} {h h':Heap} {a:Addr} {o o':Obj} (e':h'.get? a=some o') (e:h.get? a=some o) (hs:Heap.SameBut a h h') (n1:¬ Fx o) (n2:∀ C,¬ Dq o C):Step ρ h ρ h' :=
  ⟨⟨[],by simp⟩,fun b ob eb f no=>by
      by_cases q:b=a
      · subst q;rw [e] at eb;cases eb;exact absurd f n1
      · rw [hs.2 b q];exact ⟨eb,no⟩,
    fun b ob C eb c no=>by
      by_cases q:b=a
      · subst q;rw [e] at eb;cases eb;exact absurd c (n2 C)
      · exact ⟨ob,by rw [hs.2 b q];exact eb,c,no⟩⟩
theorem Full.own {ρ:Rho} {h h':Heap} {a:Addr} {o':Obj} (o:A1 ρ a) (e':h'.get? a=some o') (hs:Heap.SameBut a h h'):Full ρ h ρ h' :=
  ⟨Ks.refl ρ h,fun b ob eb n=>by
      have q:b≠a:=fun q=>n (q▸o)
      exact ⟨ob,by rw [hs.2 b q];exact eb,.refl ob⟩,SameBut.live hs e'⟩
structure Cx where
  prog:Program
  w:World
  T:Tab
  s₀:Shared
  cls:List Value
  attrs:List Str
  fns:List Addr
noncomputable def Cx.h₀ (cx:Cx):Heap:=cx.s₀.heap
noncomputable def B1 (vs:List Value) (n:Nat):Obj:={ cls:=.type "list",dict:=none,data:=.seq vs.toArray n,slots:=#[] }
noncomputable def Wc (vs:List Value) (n:Nat):Obj:={ cls:=.type "tuple",dict:=none,data:=.seq vs.toArray n,slots:=#[] }
mutual
inductive VR (cx:Cx) (ρ:Rho) (h:Heap):Val -> Value -> Prop
  | none:VR cx ρ h .none .none
  | bool (b:Bool):VR cx ρ h (.bool b) (.bool b)
  | int (i:Int) (t:Tok):VR cx ρ h (.int i) (.int i t)
  | str (s:Str) (t:Tok):s.length <= sizeLine -> VR cx ρ h (.str s) (.str s t)
  | tup {a:Addr} {vs:List Value} {n:Nat} {ms:List Val}:h.get? a=some (Wc vs n) -> ¬ A1 ρ a -> ms.length <= sizeLine -> VRs cx ρ h ms vs -> VR cx ρ h (.tup ms) (.ref a)
  | loc {l:Nat} {p:Addr × Addr}:ρ[l]?=some p -> VR cx ρ h (.loc l) (.ref p.1)
  | script {a:Addr} {vs:List Value} {n:Nat} {ns:List Int}:cx.h₀.get? a=some (B1 vs n) -> ns.length <= sizeLine -> VRs cx ρ h (ns.map .int) vs -> VR cx ρ h (.script ns) (.ref a)
  | rng {a:Addr} {i:Int} {t u v:Tok}:IsRange h a 0 i 1 t u v -> ¬ A1 ρ a -> -(2 ^ 62) <= i -> i < 2 ^ 62 -> VR cx ρ h (.rng i) (.ref a)
  | exc {a:Addr} {o:Obj} {c:Nat} {C:Addr}:h.get? a=some o -> ¬ A1 ρ a -> cx.cls[c]?=some (.ref C) -> Dq o C -> VR cx ρ h (.exc c) (.ref a)
inductive VRs (cx:Cx) (ρ:Rho) (h:Heap):List Val -> List Value -> Prop
  | nil:VRs cx ρ h [] []
  | cons {m:Val} {v:Value} {ms:List Val} {vs:List Value}:VR cx ρ h m v -> VRs cx ρ h ms vs -> VRs cx ρ h (m :: ms) (v :: vs)
end
theorem VRs.step {cx:Cx} {ρ ρ':Rho} {h h':Heap} (st:Step ρ h ρ' h') {ms:List Val} {vs:List Value} (r:VRs cx ρ h ms vs):VRs cx ρ' h' ms vs :=
  VRs.rec (motive_1:=fun m v _=>VR cx ρ' h' m v) (motive_2:=fun ms vs _=>VRs cx ρ' h' ms vs) .none .bool .int .str
    (fun e n z _ r=>.tup (st.keepT _ _ e (.inl ⟨rfl,_,_,rfl⟩) n).1 (st.keepT _ _ e (.inl ⟨rfl,_,_,rfl⟩) n).2 z r)
    (fun e=>.loc (st.get e)) (fun e z _ r=>.script e z r)
    (fun e n z1 z2=>.rng (st.keepT _ _ e (.inr ⟨rfl,_,rfl⟩) n).1 (st.keepT _ _ e (.inr ⟨rfl,_,rfl⟩) n).2 z1 z2)
    (fun e n k c=>(st.keepC _ _ _ e c n).elim fun o' w=>.exc w.1 w.2.2 k w.2.1) .nil (fun _ _ a r=>.cons a r) r
theorem VRs.head {cx:Cx} {ρ:Rho} {h:Heap} {m:Val} {v:Value} {ms:List Val} {vs:List Value} (r:VRs cx ρ h (m :: ms) (v :: vs)):VR cx ρ h m v:=by
  cases r;assumption
theorem VR.step {cx:Cx} {ρ ρ':Rho} {h h':Heap} (st:Step ρ h ρ' h') {m:Val} {v:Value} (x:VR cx ρ h m v):VR cx ρ' h' m v:=(VRs.step st (.cons x .nil)).head
section
variable {cx:Cx} {ρ:Rho} {h:Heap} {ms ms':List Val} {vs vs':List Value} {m:Val} {v:Value}
theorem VRs.length (r:VRs cx ρ h ms vs):ms.length=vs.length:=by
  induction ms generalizing vs with
  | nil=>cases r;rfl
  | cons m ms ih=>cases r with | cons a r=>rw [List.length_cons,List.length_cons,ih r]
theorem VRs.append (r:VRs cx ρ h ms vs) (r':VRs cx ρ h ms' vs'):VRs cx ρ h (ms++ms') (vs++vs'):=by
  induction ms generalizing vs with
  | nil=>cases r;exact r'
  | cons m ms ih=>cases r with | cons a r=>exact .cons a (ih r)
theorem VRs.get (r:VRs cx ρ h ms vs) {k:Nat} (e:ms[k]?=some m):∃ v,vs[k]?=some v /\ VR cx ρ h m v:=by
  induction ms generalizing vs k with
  | nil=>simp at e
  | cons m' ms ih =>
    cases r with
    | cons a r =>
      cases k with
      | zero=>simp at e;refine e▸?_;exact ⟨_,by simp,a⟩
      | succ k=>simp at e;refine ex1 (ih r e) fun v zz=>Ad zz fun hv hr=>?_;exact ⟨v,by simpa using hv,hr⟩
theorem VRs.one (r:VR cx ρ h m v):VRs cx ρ h [m] [v]:=.cons r .nil
theorem VRs.set (r:VRs cx ρ h ms vs) (k:Nat) (a:VR cx ρ h m v):VRs cx ρ h (ms.set k m) (vs.set k v):=by
  induction ms generalizing vs k with
  | nil=>cases r;exact .nil
  | cons m' ms ih =>
    cases r with
    | cons b r =>
      cases k with
      | zero=>exact .cons a r
      | succ k=>exact .cons b (ih r k)
theorem VRs.take (r:VRs cx ρ h ms vs) (k:Nat):VRs cx ρ h (ms.take k) (vs.take k):=by
  induction ms generalizing vs k with
  | nil=>cases r;simp;exact .nil
  | cons m' ms ih =>
    cases r with
    | cons b r =>
      cases k with
      | zero=>exact .nil
      | succ k=>exact .cons b (ih r k)
theorem VRs.drop (r:VRs cx ρ h ms vs) (k:Nat):VRs cx ρ h (ms.drop k) (vs.drop k):=by
  induction ms generalizing vs k with
  | nil=>cases r;simp;exact .nil
  | cons m' ms ih =>
    cases r with
    | cons b r =>
      cases k with
      | zero=>exact .cons b r
      | succ k=>exact ih r k
theorem VRs.eraseIdx (r:VRs cx ρ h ms vs) (k:Nat):VRs cx ρ h (ms.eraseIdx k) (vs.eraseIdx k):=by
  induction ms generalizing vs k with
  | nil=>cases r;simp;exact .nil
  | cons m' ms ih =>
    cases r with
    | cons b r =>
      cases k with
      | zero=>exact r
      | succ k=>exact .cons b (ih r k)
end
noncomputable abbrev cellKind (cx:Cx):HeapKind cx.prog cx.w (List Int):=tupleKind (intKind cx.prog cx.w)
inductive DRs (cx:Cx) (ρ:Rho) (h:Heap):List (Key × Val) -> List (List Int × Addr × Value) -> Prop
  | nil:DRs cx ρ h [] []
  | cons {k:Key} {v:Val} {b:Addr} {x:Value} {es:List (Key × Val)} {xs:List (List Int × Addr × Value)} :
      VR cx ρ h v x -> ¬ A1 ρ b -> DRs cx ρ h es xs -> DRs cx ρ h ((k,v) :: es) (([k.1,k.2],b,x) :: xs)
theorem DRs.step {cx:Cx} {ρ ρ':Rho} {h h':Heap} (st:Step ρ h ρ' h') {es:List (Key × Val)} {xs:List (List Int × Addr × Value)} (hk:∀ x∈xs,(cellKind cx).is h x.1 x.2.1) (r:DRs cx ρ h es xs):DRs cx ρ' h' es xs:=by
  induction r with
  | nil=>exact .nil
  | @cons k v b x es xs a n _ ih =>
    refine .cons (a.step st) ?_ (ih fun x hx=>hk x (.tail _ hx))
    refine ex3 (hk _ (.head _)) fun o _ _ zz=>Cg zz fun ho hc hd _=>?_
    exact (st.keepT _ _ ho (.inl ⟨hc,_,_,hd⟩) n).2
inductive HR (cx:Cx) (ρ:Rho) (h:Heap):HObj -> Addr × Addr -> Prop
  | list {a:Addr} {vs:List Value} {n:Nat} {xs:List Val}:h.get? a=some (B1 vs n) -> VRs cx ρ h xs vs -> xs.length <= sizeLine -> HR cx ρ h (.list xs) (a,a)
  | dict {a:Addr} {es:List (Key × Val)} {xs:List (List Int × Addr × Value)}:h.DictOfH (cellKind cx) a xs -> DRs cx ρ h es xs -> es.length <= sizeLine -> HR cx ρ h (.dict es) (a,a)
  | inst {a d C:Addr} {o:Obj} {c:Nat} {fs:List (Nat × Val)} {mA:Str -> Option Value}:(cx.T.meth c 0).isSome=true -> cx.cls[c]?=some (.ref C) -> h.get? a=some o -> o.cls=.ref C -> (∀ c,o.data≠.cls c) -> o.dict=some d -> d≠a -> h.Ns1 d mA ->
      (∀ n v,fs.lookup n=some v -> ∃ y x,cx.attrs[n]?=some y /\ mA y=some x /\ VR cx ρ h v x) ->
      (∀ y,mA y≠none -> ∃ n v,cx.attrs[n]?=some y /\ fs.lookup n=some v) ->
      HR cx ρ h (.inst c fs) (a,d)
  | hid {a:Addr} {x y:Value}:h.get? a=some (Wc [x,y] 0) -> HR cx ρ h .hid (a,a)
structure Rel (cx:Cx) (H:Hp) (ρ:Rho) (s:Shared):Prop where
  len:H.length=ρ.length
  objs:∀ (l:Nat) (o:HObj) (p:Addr × Addr),H[l]?=some o -> ρ[l]?=some p -> HR cx ρ s.heap o p
  apart:∀ (i j:Nat) (p q:Addr × Addr),i≠j -> ρ[i]?=some p -> ρ[j]?=some q -> (p.1≠q.1 /\ p.1≠q.2) /\ (p.2≠q.1 /\ p.2≠q.2)
  new:∀ p∈ρ,cx.h₀.get? p.1=none /\ cx.h₀.get? p.2=none
  base:∀ b o,cx.h₀.get? b=some o -> s.heap.get? b=some o
  sys:∃ o,cx.h₀.get? sysModules=some o
  rest:∃ h tk,s={ cx.s₀ with heap:=h,toks:=tk }
theorem Rel.size {cx:Cx} {H:Hp} {ρ:Rho} {s:Shared} (R:Rel cx H ρ s):∀ p∈ρ,(∃ o,s.heap.get? p.1=some o) /\ ∃ o,s.heap.get? p.2=some o:=by
  intro p hp
  refine ex1 (List.mem_iff_getElem.mp hp) fun l zz=>ex1 zz fun hl e=>?_
  have e':ρ[l]?=some p:=by rw [List.getElem?_eq_getElem hl,e]
  have hH:l < H.length:=by rw [R.len];exact hl
  obtain ⟨ob,hob⟩:∃ ob,H[l]?=some ob:=⟨_,List.getElem?_eq_getElem hH⟩
  have:=R.objs l ob p hob e'
  clear e e'
  cases this with
  | list q _ _=>exact ⟨⟨_,q⟩,_,q⟩
  | dict q _ _=>refine ex3 q fun o _ _ zz=>Ad zz fun q _=>?_;exact ⟨⟨_,q⟩,_,q⟩
  | inst _ _ q _ _ _ _ n _ _=>refine ex3 n fun o' _ _ zz=>Ad zz fun q' _=>?_;exact ⟨⟨_,q⟩,_,q'⟩
  | hid q=>exact ⟨⟨_,q⟩,_,q⟩
theorem Rel.owned_lt {cx:Cx} {H:Hp} {ρ:Rho} {s:Shared} (R:Rel cx H ρ s) {a:Addr} (o:A1 ρ a):∃ o,s.heap.get? a=some o:=by
  obtain ⟨p,hp,rfl | rfl⟩:=o
  · exact (R.size p hp).1
  · exact (R.size p hp).2
theorem Rel.owned_new {cx:Cx} {H:Hp} {ρ:Rho} {s:Shared} (R:Rel cx H ρ s) {a:Addr} (o:A1 ρ a):cx.h₀.get? a=none:=by
  obtain ⟨p,hp,rfl | rfl⟩:=o
  · exact (R.new p hp).1
  · exact (R.new p hp).2
theorem Rel.base_not {cx:Cx} {H:Hp} {ρ:Rho} {s:Shared} (R:Rel cx H ρ s) {a:Addr} {o:Obj} (e:cx.h₀.get? a=some o):¬ A1 ρ a:=fun w=>by rw [R.owned_new w] at e;exact Ae e
theorem HR.step {cx:Cx} {ρ ρ':Rho} {h h':Heap} {o:HObj} {p:Addr × Addr} (x:HR cx ρ h o p) (st:Step ρ h ρ' h') (k:∀ b ob,(b=p.1 \/ b=p.2) -> h.get? b=some ob -> h'.get? b=some ob):HR cx ρ' h' o p:=by
  cases x with
  | list e r z=>exact .list (k _ _ (.inl rfl) e) (r.step st) z
  | @dict a es xs D r z =>
    obtain ⟨ob,es',ep,e,ex,d,el,ks,nd⟩:=D
    have ks':∀ x∈xs,(cellKind cx).is h' x.1 x.2.1:=by
      intro x hx
      obtain ⟨ok,items,n,hk,hc,hd',rest⟩:=ks x hx
      refine ⟨ok,items,n,(st.keepT _ _ hk (.inl ⟨hc,_,_,hd'⟩) ?_).1,hc,hd',rest⟩
      clear rest el nd z ks d ex e k
      induction r with
      | nil=>cases hx
      | cons a n _ ih =>
        cases hx with
        | head=>exact n
        | tail _ hx=>exact ih hx
    exact .dict ⟨ob,es',ep,k _ _ (.inl rfl) e,ex,d,el,ks',nd⟩ (r.step st ks) z
  | hid e=>exact .hid (k _ _ (.inl rfl) e)
  | inst c0 c e k1 k2 k3 k4 n f g =>
    refine .inst c0 c (k _ _ (.inl rfl) e) k1 k2 k3 k4 (n.at fun o e=>k _ _ (.inr rfl) e) (fun i v hv=>?_) g
    refine Ah fun G kG=>?_
    obtain ⟨y,x,h1,h2,h3⟩:=f i v hv
    refine kG ?_
    exact ⟨y,x,h1,h2,h3.step st⟩
section
variable {cx:Cx} {H:Hp} {ρ:Rho} {s:Shared}
theorem Rel.same (R:Rel cx H ρ s) {h':Heap} {tk:Nat} (st:Step ρ s.heap ρ h') (ko:∀ b o,A1 ρ b -> s.heap.get? b=some o -> h'.get? b=some o) (kb:∀ b o,cx.h₀.get? b=some o -> h'.get? b=some o) :
    Rel cx H ρ { s with heap:=h',toks:=tk }:=by
  refine ⟨R.len,fun l o p hl hp=>?_,R.apart,R.new,kb,R.sys,?_⟩
  · refine (R.objs l o p hl hp).step st fun b ob hb e=>ko b ob ⟨p,List.mem_of_getElem? hp,hb⟩ e
  · refine ex2 R.rest fun h t hr0=>?_;refine Eq.symm hr0▸?_
    exact ⟨h',tk,rfl⟩
theorem Rel.toks (R:Rel cx H ρ s) (tk:Nat):Rel cx H ρ { s with toks:=tk } :=
  R.same (h':=s.heap) (Step.refl _ _) (fun _ _ _ e=>e) R.base
theorem Rel.more (R:Rel cx H ρ s) {h':Heap} {tk:Nat} (k:∀ b o,s.heap.get? b=some o -> h'.get? b=some o):Rel cx H ρ { s with heap:=h',toks:=tk } :=
  R.same (Full.more k).step (fun b o _ e=>k b o e) fun b o e=>k b o (R.base b o e)
theorem Rel.push (R:Rel cx H ρ s) (o:Obj) (tk:Nat):Rel cx H ρ { s with heap:=s.heap.push o,toks:=tk } :=
  R.more fun _ _ e=>Heap.get?_push_of_some _ e
theorem Rel.but (R:Rel cx H ρ s) {h':Heap} {tk:Nat} {a:Addr} {o:Obj} {o':Obj} (e':h'.get? a=some o') (e:s.heap.get? a=some o) (hs:Heap.SameBut a s.heap h') (n1:¬ Fx o) (n2:∀ C,¬ Dq o C) (no:¬ A1 ρ a) (nb:cx.h₀.get? a=none) :
    Rel cx H ρ { s with heap:=h',toks:=tk } :=
  R.same (Step.but e' e hs n1 n2) (fun b ob ho eb=>by rw [hs.2 b (fun q=>no (q▸ho))];exact eb) fun b ob eb=>by
    rw [hs.2 b (fun q=>by subst q;rw [nb] at eb;exact nomatch eb)];exact R.base b ob eb
theorem Rel.fresh_not (R:Rel cx H ρ s) {a:Addr} (ha:s.heap.get? a=none):¬ A1 ρ a:=fun w=>by obtain ⟨o,e⟩:=R.owned_lt w;rw [ha] at e;exact Ae e
theorem Rel.alloc (R:Rel cx H ρ s) {h':Heap} {tk:Nat} {o:HObj} {p:Addr × Addr} (k:∀ b o,s.heap.get? b=some o -> h'.get? b=some o)
    (hp:s.heap.get? p.1=none /\ s.heap.get? p.2=none) (x:HR cx (ρ++[p]) h' o p):Full ρ s.heap (ρ++[p]) h' /\ Rel cx (H++[o]) (ρ++[p]) { s with heap:=h',toks:=tk }:=by
  have F:Full ρ s.heap (ρ++[p]) h':=⟨⟨[p],rfl,fun q hq=>by rw [List.mem_singleton.mp hq];exact hp⟩,fun b o e _=>⟨o,k b o e,.refl o⟩,fun b o e=>⟨o,k b o e⟩⟩
  refine ⟨F,⟨by rw [List.length_append,List.length_append,R.len];rfl,fun l ob q hl hq=>?_,fun i j q r hij hi hj=>?_,fun q hq=>?_,fun b o e=>k b o (R.base b o e),R.sys,?_⟩⟩
  · by_cases lt:l < H.length
    · rw [List.getElem?_append_left lt] at hl
      rw [List.getElem?_append_left (by rw [<- R.len];exact lt)] at hq
      exact (R.objs l ob q hl hq).step F.step fun b ob _ e=>k b ob e
    · have hl':=(List.getElem?_eq_some_iff.mp hl).1
      have le:l=H.length:=by rw [List.length_append] at hl';simp at hl';exact o1 hl' lt
      subst le
      rw [List.getElem?_append_right (Nat.le_refl _)] at hl
      rw [List.getElem?_append_right (by rw [R.len];exact Nat.le_refl _)] at hq
      rw [R.len] at hq
      simp at hl hq
      subst hl hq
      exact x
  · have old:∀ {i:Nat} {q:Addr × Addr},ρ[i]?=some q -> (∃ o,s.heap.get? q.1=some o) /\ ∃ o,s.heap.get? q.2=some o:=fun h=>R.size _ (List.mem_of_getElem? h)
    have ne:∀ {a b:Addr},(∃ o,s.heap.get? a=some o) -> s.heap.get? b=none -> a≠b:=fun ⟨o,e⟩ n q=>by rw [q,n] at e;exact Ae e
    have at':∀ {i:Nat} {q:Addr × Addr},(ρ++[p])[i]?=some q -> ρ[i]?=some q \/ (i=ρ.length /\ q=p):=by
      intro i q h
      by_cases lt:i < ρ.length
      · rw [List.getElem?_append_left lt] at h;exact .inl h
      · have hl':=(List.getElem?_eq_some_iff.mp h).1
        have le:i=ρ.length:=by rw [List.length_append] at hl';simp at hl';exact o1 hl' lt
        subst le
        rw [List.getElem?_append_right (Nat.le_refl _)] at h
        simp at h
        exact .inr ⟨rfl,h.symm⟩
    rcases at' hi with hi' | ⟨hi',eq⟩ <;> rcases at' hj with hj' | ⟨hj',er⟩
    · exact R.apart i j q r hij hi' hj'
    · have q:=old hi';rw [er];exact ⟨⟨ne q.1 hp.1,ne q.1 hp.2⟩,ne q.2 hp.1,ne q.2 hp.2⟩
    · have q:=old hj';rw [eq];exact ⟨⟨(ne q.1 hp.1).symm,(ne q.2 hp.1).symm⟩,(ne q.1 hp.2).symm,(ne q.2 hp.2).symm⟩
    · exact absurd (hi'.trans hj'.symm) hij
  · rcases List.mem_append.mp hq with hq | hq
    · exact R.new q hq
    · have lv:Fh cx.h₀ s.heap:=fun b o e=>⟨o,R.base b o e⟩
      rw [List.mem_singleton.mp hq];exact ⟨lv.none hp.1,lv.none hp.2⟩
  · refine ex2 R.rest fun h t hr0=>?_;refine Eq.symm hr0▸?_
    exact ⟨h',tk,rfl⟩
theorem Rel.set (R:Rel cx H ρ s) {l:Nat} {h':Heap} {tk:Nat} {o:HObj} {p:Addr × Addr} (hl:ρ[l]?=some p) (k:∀ b o,s.heap.get? b=some o -> b≠p.1 -> b≠p.2 -> h'.get? b=some o) (z:Fh s.heap h')
    (x:HR cx ρ h' o p):Full ρ s.heap ρ h' /\ Rel cx (H.set l o) ρ { s with heap:=h',toks:=tk }:=by
  have own:∀ b,¬ A1 ρ b -> b≠p.1 /\ b≠p.2:=fun b n=>⟨fun e=>n ⟨p,List.mem_of_getElem? hl,.inl e⟩,fun e=>n ⟨p,List.mem_of_getElem? hl,.inr e⟩⟩
  have F:Full ρ s.heap ρ h':=⟨Ks.refl _ _,fun b ob e n=>⟨ob,k b ob e (own b n).1 (own b n).2,.refl ob⟩,z⟩
  refine ⟨F,⟨by rw [List.length_set,R.len],fun i ob q hi hq=>?_,R.apart,R.new,fun b ob e=>?_,R.sys,?_⟩⟩
  · by_cases e:i=l
    · subst e
      rw [hl] at hq;cases hq
      have lt:i < H.length:=by rw [R.len];exact (List.getElem?_eq_some_iff.mp hl).1
      rw [List.getElem?_set_self lt] at hi
      cases hi;exact x
    · rw [List.getElem?_set_ne (fun q=>e q.symm)] at hi
      refine (R.objs i ob q hi hq).step F.step fun b ob' hb eb=>?_
      refine Av (R.apart i l q p e hq hl) fun zn0 a3 a4=>?_;obtain ⟨a1,a2⟩:=zn0
      rcases hb with rfl | rfl
      · exact k _ _ eb a1 a2
      · exact k _ _ eb a3 a4
  · have n:=R.base_not e
    exact k b ob (R.base b ob e) (own b n).1 (own b n).2
  · refine ex2 R.rest fun h t hr0=>?_;refine Eq.symm hr0▸?_
    exact ⟨h',tk,rfl⟩
end
structure Amb where
  P:Rho -> Heap -> Prop
  st:∀ ρ h ρ' h',P ρ h -> Full ρ h ρ' h' -> P ρ' h'
noncomputable def Amb.and (P Q:Amb):Amb:=⟨fun ρ h=>P.P ρ h /\ Q.P ρ h,fun ρ h ρ' h' x f=>⟨P.st _ _ _ _ x.1 f,Q.st _ _ _ _ x.2 f⟩⟩
noncomputable def Amb.tt:Amb:=⟨fun _ _=>True,fun _ _ _ _ _ _=>trivial⟩
noncomputable def Amb.prop (p:Prop):Amb:=⟨fun _ _=>p,fun _ _ _ _ x _=>x⟩
noncomputable def Amb.vr (cx:Cx) (m:Val) (v:Value):Amb:=⟨fun ρ h=>VR cx ρ h m v,fun _ _ _ _ x f=>x.step f.step⟩
noncomputable def Amb.vrs (cx:Cx) (ms:List Val) (vs:List Value):Amb:=⟨fun ρ h=>VRs cx ρ h ms vs,fun _ _ _ _ x f=>x.step f.step⟩
structure Flying (cx:Cx) (ρ:Rho) (h h':Heap) (c:Nat) (e:Value):Prop where
  is:∃ (a C:Addr) (vs:Array Value),e=.ref a /\ cx.cls[c]?=some (.ref C) /\ h.get? a=none /\ h'.get? a=some { cls:=.ref C,dict:=none,data:=.fields vs,slots:=#[] } /\ vs.size=6 /\ ¬ A1 ρ a /\
    (vs[1]?=some .none \/ ∃ (tb:Addr) (tvs:Array Value),vs[1]?=some (.ref tb) /\ h.get? tb=none /\ h'.get? tb=some { cls:=.type "traceback",dict:=none,data:=.fields tvs,slots:=#[] } /\ tvs.size=11 /\ ¬ A1 ρ tb)
theorem Flying.older {cx:Cx} {ρ:Rho} {h₁ h h':Heap} {c:Nat} {e:Value} (x:Flying cx ρ h h' c e) (z:Fh h₁ h):Flying cx ρ h₁ h' c e:=by
  refine ex3 x.is fun a C vs zz=>Mu zz fun e1 e2 e3 e4 e5 e6 e7=>?_
  refine ⟨a,C,vs,e1,e2,z.none e3,e4,e5,e6,?_⟩
  rcases e7 with e7 | ⟨tb,tvs,f1,f2,f3⟩
  · exact .inl e7
  · exact .inr ⟨tb,tvs,f1,z.none f2,f3⟩
noncomputable def Bg {α β:Type} (cx:Cx) (A:Around) (r:Res β) (t:Sem α) (V:β -> α -> Amb) (ρ:Rho) (s:Shared):Prop :=
  match r with
  | .bad=>True
  | .ok b H'=>wpAny (model cx.prog cx.w) A t (fun a s'=>∃ ρ',Full ρ s.heap ρ' s'.heap /\ Rel cx H' ρ' s' /\ (V b a).P ρ' s'.heap) (fun _ _=>False) s
  | .exc c H'=>wpAny (model cx.prog cx.w) A t (fun _ _=>False) (fun e s'=>∃ ρ',Full ρ s.heap ρ' s'.heap /\ Rel cx H' ρ' s' /\ Flying cx ρ' s.heap s'.heap c e) s
noncomputable def Sim {α β:Type} (cx:Cx) (A:Around) (P:Amb) (t:Sem α) (m:M β) (V:β -> α -> Amb):Prop :=
  ∀ (H:Hp) (ρ:Rho) (s:Shared),Rel cx H ρ s -> P.P ρ s.heap -> Bg cx A (m H) t V ρ s
section
variable {α β γ δ:Type} {cx:Cx} {A:Around} {P:Amb} {t:Sem α} {m:M β} {V:β -> α -> Amb}
theorem Bg.bind {f:α -> Sem γ} {g:β -> M δ} {W:δ -> γ -> Amb} {ρ:Rho} {s:Shared} {H:Hp} (x:Bg cx A (m H) t V ρ s)
    (y:∀ b a H' ρ' s',m H=.ok b H' -> Full ρ s.heap ρ' s'.heap -> Rel cx H' ρ' s' -> (V b a).P ρ' s'.heap -> Bg cx A (g b H') (f a) W ρ' s') :
    Bg cx A (m.bnd g H) (t>>=f) W ρ s:=by
  cases e:m H with
  | bad=>rw [Df e];trivial
  | exc c H' =>
    rw [Fd e]
    rw [e] at x
    exact wpAny_bind (wpAny_mono x (fun _ _ q=>q.elim) fun _ _ q=>q)
  | ok b H' =>
    rw [D4 e]
    rw [e] at x
    have y':=y b
    cases e2:g b H' with
    | bad=>trivial
    | exc c H'' =>
      refine wpAny_bind (wpAny_mono x (fun a s' ⟨ρ',F,R,v⟩=>?_) fun _ _ q=>q.elim)
      have z:=y b a H' ρ' s' e F R v
      rw [e2] at z
      exact wpAny_mono z (fun _ _ q=>q) fun e s'' ⟨ρ'',F',R',fl⟩=>⟨ρ'',F.trans F',R',fl.older F.live⟩
    | ok d H'' =>
      refine wpAny_bind (wpAny_mono x (fun a s' ⟨ρ',F,R,v⟩=>?_) fun _ _ q=>q.elim)
      have z:=y b a H' ρ' s' e F R v
      rw [e2] at z
      exact wpAny_mono z (fun a' s'' ⟨ρ'',F',R',w⟩=>⟨ρ'',F.trans F',R',w⟩) fun _ _ q=>q.elim
theorem Sim.bind {f:α -> Sem γ} {g:β -> M δ} {W:δ -> γ -> Amb} (x:Sim cx A P t m V) (y:∀ b a,Sim cx A (P.and (V b a)) (f a) (g b) W):Sim cx A P (t>>=f) (m.bnd g) W :=
  fun H ρ s R p=>Bg.bind (x H ρ s R p) fun b a H' ρ' s' _ F R' v=>y b a H' ρ' s' R' ⟨P.st _ _ _ _ p F,v⟩
noncomputable def Gs {α β:Type} (cx:Cx) (r:Res β) (K:(α -> Shared -> Prop) -> (Value -> Shared -> Prop) -> Shared -> Prop) (V:β -> α -> Amb) (ρ:Rho) (s:Shared):Prop :=
  match r with
  | .bad=>True
  | .ok b H'=>K (fun a s'=>∃ ρ',Full ρ s.heap ρ' s'.heap /\ Rel cx H' ρ' s' /\ (V b a).P ρ' s'.heap) (fun _ _=>False) s
  | .exc c H'=>K (fun _ _=>False) (fun e s'=>∃ ρ',Full ρ s.heap ρ' s'.heap /\ Rel cx H' ρ' s' /\ Flying cx ρ' s.heap s'.heap c e) s
noncomputable def Qo {α:Type} (K:(α -> Shared -> Prop) -> (Value -> Shared -> Prop) -> Shared -> Prop):Prop :=
  ∀ Q E Q' E' s,K Q E s -> (∀ a s,Q a s -> Q' a s) -> (∀ e s,E e s -> E' e s) -> K Q' E' s
theorem Bg.bindK {g:β -> M δ} {W:δ -> γ -> Amb} {ρ:Rho} {s:Shared} {H:Hp} {K:α -> (γ -> Shared -> Prop) -> (Value -> Shared -> Prop) -> Shared -> Prop} {K':(γ -> Shared -> Prop) -> (Value -> Shared -> Prop) -> Shared -> Prop} (x:Bg cx A (m H) t V ρ s)
    (y:∀ b a H' ρ' s',m H=.ok b H' -> Full ρ s.heap ρ' s'.heap -> Rel cx H' ρ' s' -> (V b a).P ρ' s'.heap -> Gs cx (g b H') (K a) W ρ' s')
    (mk:∀ a,Qo (K a))
    (k:∀ Q E,wpAny (model cx.prog cx.w) A t (fun a s'=>K a Q E s') E s -> K' Q E s) :
    Gs cx (m.bnd g H) K' W ρ s:=by
  cases e:m H with
  | bad=>rw [Df e];trivial
  | exc c H' =>
    rw [Fd e]
    rw [e] at x
    exact k _ _ (wpAny_mono x (fun _ _ q=>q.elim) fun _ _ q=>q)
  | ok b H' =>
    rw [D4 e]
    rw [e] at x
    cases e2:g b H' with
    | bad=>trivial
    | exc c H'' =>
      refine k _ _ (wpAny_mono x (fun a s' ⟨ρ',F,R,v⟩=>?_) fun _ _ q=>q.elim)
      have z:=y b a H' ρ' s' e F R v
      rw [e2] at z
      exact mk a _ _ _ _ _ z (fun _ _ q=>q) fun e s'' ⟨ρ'',F',R',fl⟩=>⟨ρ'',F.trans F',R',fl.older F.live⟩
    | ok d H'' =>
      refine k _ _ (wpAny_mono x (fun a s' ⟨ρ',F,R,v⟩=>?_) fun _ _ q=>q.elim)
      have z:=y b a H' ρ' s' e F R v
      rw [e2] at z
      exact mk a _ _ _ _ _ z (fun a' s'' ⟨ρ'',F',R',w⟩=>⟨ρ'',F.trans F',R',w⟩) fun _ _ q=>q.elim
theorem Gs.lookK {ρ:Rho} {s:Shared} {H:Hp} {f:Hp -> Option β} {g:β -> M δ} {W:δ -> γ -> Amb} {K:(γ -> Shared -> Prop) -> (Value -> Shared -> Prop) -> Shared -> Prop} (y:∀ b,f H=some b -> Gs cx (g b H) K W ρ s):Gs cx ((M.look f).bnd g H) K W ρ s:=by
  cases e:f H with
  | none=>rw [Df (show M.look f H=.bad by unfold M.look;rw [e])];trivial
  | some b=>rw [D4 (show M.look f H=.ok b H by unfold M.look;rw [e])];exact y b e
theorem Gs.mono {r:Res β} {ρ:Rho} {s:Shared} {K K':(α -> Shared -> Prop) -> (Value -> Shared -> Prop) -> Shared -> Prop} (x:Gs cx r K V ρ s) (k:∀ Q E,K Q E s -> K' Q E s):Gs cx r K' V ρ s:=by
  cases r with
  | bad=>trivial
  | exc c H'=>exact k _ _ x
  | ok b H'=>exact k _ _ x
theorem Sim.pre {t':Sem α} (x:Sim cx A P t m V) (k:∀ (Q:α -> Shared -> Prop) (E:Value -> Shared -> Prop) (s:Shared),wpAny (model cx.prog cx.w) A t Q E s -> wpAny (model cx.prog cx.w) A t' Q E s):Sim cx A P t' m V:=by
  intro H ρ s R p
  have z:=x H ρ s R p
  cases e:m H with
  | bad=>trivial
  | exc c H'=>rw [e] at z;exact k _ _ _ z
  | ok b H'=>rw [e] at z;exact k _ _ _ z
theorem Sim.holding {vs:List Value} (x:Sim cx A P t m V):Sim cx A P (holding vs t) m V:=x.pre fun _ _ _ h=>wpAny_holding h
theorem Sim.stand {pos:Pos} {k:Unit -> Sem α} (x:Sim cx A P (k ()) m V):Sim cx A P (standAt pos>>=k) m V:=x.pre fun _ _ _ h=>wpAny_bind (wpAny_standAt h)
theorem Sim.weak {P':Amb} (x:Sim cx A P t m V) (k:∀ ρ h,P'.P ρ h -> P.P ρ h):Sim cx A P' t m V:=fun H ρ s R p=>x H ρ s R (k _ _ p)
theorem Sim.ret {a:α} {b:β} (k:∀ ρ h,P.P ρ h -> (V b a).P ρ h):Sim cx A P (pure a) (M.ret b) V :=
  fun H ρ s R p=>wpAny_pure ⟨ρ,Full.refl _ _,R,k _ _ p⟩
theorem Sim.look {f:Hp -> Option β} (k:∀ (H:Hp) (ρ:Rho) (s:Shared) (b:β),Rel cx H ρ s -> P.P ρ s.heap -> f H=some b ->
    ∀ (Q:α -> Shared -> Prop) (E:Value -> Shared -> Prop),(∀ a tk,(V b a).P ρ s.heap -> Q a { s with toks:=tk }) -> wpAny (model cx.prog cx.w) A t Q E s):Sim cx A P t (M.look f) V:=by
  intro H ρ s R p
  show Bg cx A (match f H with | some a=>Res.ok a H | none=>Res.bad) t V ρ s
  cases e:f H with
  | none=>trivial
  | some b=>exact k H ρ s b R p e _ _ fun a tk v=>⟨ρ,Full.refl _ _,R.toks tk,v⟩
end
noncomputable def Wd (env:Env) (h:Heap) (y:Str) (v:Value):Prop :=
  (env.kindOf y=some .local /\ ∃ m,h.Ns env.locals m /\ m y=some v) \/
  ((env.kindOf y=some .cell \/ env.kindOf y=some .free) /\ ∃ c,env.cells.lookup y=some c /\ h.IsCell c (some v))
noncomputable def Adt:NameKind -> Option NameKind -> Prop
  | .local,k=>k=some .local
  | .cell,k=>k=some .cell
  | .free,k=>k=some .free \/ k=some .cell
  | .globalImplicit,k=>k=some .globalImplicit
  | _,_=>True
structure EnvSt (cx:Cx) (env:Env) (sc:Scope) (ρ:Rho) (h:Heap):Prop where
  fn:env.scope.kind=.function
  glob:env.globals=mainGlobals
  blt:env.builtins=builtinsNs
  kinds:∀ y k,sc.names.lookup y=some k -> Adt k (env.kindOf y)
  loc:∃ m,h.Ns env.locals m
  locN:¬ A1 ρ env.locals
  locB:cx.h₀.get? env.locals=none
  cells:∀ y c,env.cells.lookup y=some c -> (∃ v,h.IsCell c v) /\ ¬ A1 ρ c /\ cx.h₀.get? c=none
  hasCell:∀ y,sc.names.lookup y=some .cell \/ sc.names.lookup y=some .free -> ∃ c,env.cells.lookup y=some c
  apart:∀ y z c,env.cells.lookup y=some c -> env.cells.lookup z=some c -> y=z
structure EnvOk (cx:Cx) (env:Env) (sc:Scope) (ns:List (Option Str)) (Γ:Env') (ρ:Rho) (h:Heap):Prop where
  st:EnvSt cx env sc ρ h
  len:Γ.length=ns.length
  vals:∀ (i:Nat) (y:Str) (mv:Val),ns[i]?=some (some y) -> Γ[i]?=some (some mv) -> ∃ v,Wd env h y v /\ VR cx ρ h mv v
theorem Bl {h h':Heap} {a:Addr} {m:Str -> Option Value} (n:h.Ns a m) (k:∀ o,h.get? a=some o -> ∃ o',h'.get? a=some o' /\ o'.data=o.data):h'.Ns a m:=by
  refine ex3 n fun o es ep zz=>Av zz fun e d r=>?_
  refine ex1 (k o e) fun o' zz=>Ad zz fun e' d'=>?_
  exact ⟨o',es,ep,e',d'.trans d,r⟩
theorem Full.data {ρ ρ':Rho} {h h':Heap} (F:Full ρ h ρ' h') {a:Addr} (n:¬ A1 ρ a):∀ o,h.get? a=some o -> ∃ o',h'.get? a=some o' /\ o'.data=o.data:=fun o e=>by
  refine ex1 (F.keep a o e n) fun o' zz=>Ad zz fun e' u=>?_
  exact ⟨o',e',u.data⟩
theorem Bn {h h':Heap} {c:Addr} {v:Option Value} (x:h.IsCell c v) (k:∀ o,h.get? c=some o -> ∃ o',h'.get? c=some o' /\ o'.data=o.data):h'.IsCell c v:=by
  refine ex1 x fun o zz=>Ad zz fun e d=>?_
  refine ex1 (k o e) fun o' zz=>Ad zz fun e' d'=>?_
  exact ⟨o',e',d'.trans d⟩
theorem EnvSt.full {cx:Cx} {env:Env} {sc:Scope} {ρ ρ':Rho} {h h':Heap} (x:EnvSt cx env sc ρ h) (F:Full ρ h ρ' h'):EnvSt cx env sc ρ' h':=by
  refine Ah fun G kG=>?_
  obtain ⟨m,hm⟩:=x.loc
  refine ex3 (id hm) fun o es ep zz=>Av zz fun e d r=>?_
  refine kG ?_
  refine ⟨x.fn,x.glob,x.blt,x.kinds,⟨m,Bl hm (F.data x.locN)⟩,F.grow.not x.locN e,x.locB,fun y c hc=>?_,x.hasCell,x.apart⟩
  refine Ah fun G kG=>?_
  refine Av (x.cells y c hc) fun zn0 n b=>?_;obtain ⟨v,hv⟩:=zn0
  refine ex1 (id hv) fun o zz=>Ad zz fun e _=>?_
  refine kG ?_
  exact ⟨⟨v,Bn hv (F.data n)⟩,F.grow.not n e,b⟩
theorem Wd.full {cx:Cx} {env:Env} {sc:Scope} {ρ ρ':Rho} {h h':Heap} {y:Str} {v:Value} (x:EnvSt cx env sc ρ h) (F:Full ρ h ρ' h') (q:Wd env h y v):Wd env h' y v:=by
  rcases q with ⟨k,m,hm,e⟩ | ⟨k,c,hc,e⟩
  · exact .inl ⟨k,m,Bl hm (F.data x.locN),e⟩
  · exact .inr ⟨k,c,hc,Bn e (F.data (x.cells y c hc).2.1)⟩
theorem EnvOk.full {cx:Cx} {env:Env} {sc:Scope} {ns:List (Option Str)} {Γ:Env'} {ρ ρ':Rho} {h h':Heap} (x:EnvOk cx env sc ns Γ ρ h) (F:Full ρ h ρ' h'):EnvOk cx env sc ns Γ ρ' h' :=
  ⟨x.st.full F,x.len,fun i y mv hi hm=>by
    refine ex1 (x.vals i y mv hi hm) fun v zz=>Ad zz fun hv r=>?_
    exact ⟨v,hv.full x.st F,r.step F.step⟩⟩
noncomputable def Amb.env (cx:Cx) (env:Env) (sc:Scope) (ns:List (Option Str)) (Γ:Env'):Amb:=⟨fun ρ h=>EnvOk cx env sc ns Γ ρ h,fun _ _ _ _ x F=>x.full F⟩
noncomputable def A0 (cx:Cx) (l:List Env) (ρ:Rho) (h:Heap):Prop :=
  ∀ env∈l,env.scope.kind≠.module /\ ∃ L o,env.frame=some L /\ cx.h₀.get? L=none /\ h.get? L=some o /\ (∃ es n,o.data=.dict es n) /\ ¬ A1 ρ L
theorem A0.full {cx:Cx} {l:List Env} {ρ ρ':Rho} {h h':Heap} (x:A0 cx l ρ h) (F:Full ρ h ρ' h'):A0 cx l ρ' h':=fun env he=>by
  refine Ah fun G kG=>?_
  refine Ad (x env he) fun k zz=>ex2 zz fun L o zz=>Fc zz fun h1 h2 h3 h5 h6=>?_
  refine ex1 (F.keep L o h3 h6) fun o' zz=>Ad zz fun e' u=>?_
  refine kG ?_
  exact ⟨k,L,o',h1,h2,e',by rw [u.data];exact h5,F.grow.not h6 h3⟩
noncomputable def Amb.frames (cx:Cx) (l:List Env):Amb:=⟨fun ρ h=>A0 cx l ρ h,fun _ _ _ _ x F=>x.full F⟩
structure Room (A:Around) (d:Nat):Prop where
  hh:A.handled=none
  depth:A.depth+5 * d+150 < recursionLimit
  units:A.units+20 * d+100 < cLine
structure RoomF (A:Around) (d:Nat):Prop where
  hh:A.handled=none
  depth:A.depth+5 * d+147 < recursionLimit
  units:A.units+20 * d+90 < cLine
structure RoomQ (A:Around) (d:Nat):Prop where
  depth:A.depth+5 * d+147 < recursionLimit
  units:A.units+20 * d+90 < cLine
theorem RoomF.q {A:Around} {d:Nat} (r:RoomF A d):RoomQ A d:=⟨r.depth,r.units⟩
theorem Room.toF {A:Around} {d:Nat} (r:Room A d):RoomF A d:=⟨r.hh,by have:=r.depth;exact o2 this,by have:=r.units;exact o3 this⟩
noncomputable def Iz:List (Str × Value):=[("len",.builtin "len"),("range",.type "range"),("isinstance",.builtin "isinstance"),("list",.type "list"),("tuple",.type "tuple"),("int",.type "int"),("bool",.type "bool"),("str",.type "str"),
  ("zip",.type "zip"),("enumerate",.type "enumerate"),("sorted",.builtin "sorted"),("min",.builtin "min"),("max",.builtin "max"),("abs",.builtin "abs"),("set",.type "set")]
structure Names where
  funs:List (Str × Nat)
  clss:List (Str × Nat)
  globs:List (Str × Nat)
  attrs:List (Str × Nat)
  meths:List (Str × Nat)
noncomputable def B5 (sc:Scope) (x:Str):Bool:=decide (sc.names.lookup x=some .globalImplicit) && !(x == ("__debug__":Str))
noncomputable def We (sc:Scope) (ns:List (Option Str)) (i:Nat) (x:Str):Bool :=
  (decide (sc.names.lookup x=some .local) || (decide (sc.names.lookup x=some .cell) || decide (sc.names.lookup x=some .free))) && (decide (ns[i]?=some (some x)) && (!(x == ("__debug__":Str)) && !(x == ("__classdict__":Str))))
noncomputable def Ft (sc:Scope) (ns:List (Option Str)) (i:Nat) (x:Str):Bool :=
  (decide (sc.names.lookup x=some .local) || decide (sc.names.lookup x=some .cell)) && decide (ns[i]?=some (some x))
noncomputable def D8 (l:List (Str × Nat)) (x:Str) (k:Nat):Bool:=decide (l.lookup x=some k)
noncomputable def bOp:BOp -> Operator
  | .add=>.Add
  | .sub=>.Sub
  | .mul=>.Mult
  | .fdiv=>.FloorDiv
  | .mod=>.Mod
noncomputable def Afm (b:BOp) (o:Operator):Bool:=decide (bOp b=o)
noncomputable def I8:COp -> CmpOp
  | .eq=>.Eq
  | .ne=>.NotEq
  | .lt=>.Lt
  | .le=>.LtE
  | .gt=>.Gt
  | .is=>.Is
  | .isNot=>.IsNot
  | .isin=>.In
  | .notin=>.NotIn
noncomputable def Cu:Expr -> Bool
  | .Call (.Name x _) _ _ _=>!(x == ("super":Str))
  | _=>true
noncomputable def D6:Expr -> Bool
  | .Set ..=>false
  | _=>true
noncomputable def Gu:BF -> Str × Nat
  | .len=>("len",1)
  | .range=>("range",1)
  | .list=>("list",1)
  | .max2=>("max",2)
  | .sortedSet=>("",0)
noncomputable def Hi:BM -> Str × Nat
  | .append=>("append",1)
  | .pop=>("pop",0)
  | .dpop=>("pop",1)
  | .clear=>("clear",0)
  | .rstrip=>("rstrip",0)
noncomputable def M0:Ty -> Str
  | .int=>"int"
  | .bool=>"bool"
  | .str=>"str"
  | .tuple=>"tuple"
  | .list=>"list"
  | .cls _=>""
noncomputable def Ep (csc:Scope) (ns:List (Option Str)):List (Option Str):=ns.map fun o=>o.bind fun y=>if csc.names.lookup y=some .free then some y else none
noncomputable def Jx (sc csc:Scope) (x:Str):Bool :=
  decide (csc.kind=.function) && ((decide (csc.names.lookup x=some .local) || decide (csc.names.lookup x=some .cell)) &&
  csc.names.all fun p=>decide (csc.names.lookup p.1=some p.2) && (!decide (p.2=.free) || (decide (sc.names.lookup p.1=some .cell) || decide (sc.names.lookup p.1=some .free))))
noncomputable def M1 (e:Expr):Option { p:Const × Nat × Pos // e=.Constant p.1 p.2.1 p.2.2 }:=match e with
  | .Constant c k pos=>some ⟨(c,k,pos),rfl⟩
  | _=>none
noncomputable def Lq (e:Expr):Option { p:Str × Pos // e=.Name p.1 p.2 }:=match e with
  | .Name x pos=>some ⟨(x,pos),rfl⟩
  | _=>none
noncomputable def Amh (e:Expr):Option { p:Expr × Operator × Expr × Pos // e=.BinOp p.1 p.2.1 p.2.2.1 p.2.2.2 }:=match e with
  | .BinOp l o r pos=>some ⟨(l,o,r,pos),rfl⟩
  | _=>none
noncomputable def dUn (e:Expr):Option { p:UnaryOp × Expr × Pos // e=.UnaryOp p.1 p.2.1 p.2.2 }:=match e with
  | .UnaryOp o x pos=>some ⟨(o,x,pos),rfl⟩
  | _=>none
noncomputable def Adu (e:Expr):Option { p:BoolOp × List Expr × Pos // e=.BoolOp p.1 p.2.1 p.2.2 }:=match e with
  | .BoolOp o xs pos=>some ⟨(o,xs,pos),rfl⟩
  | _=>none
noncomputable def Ahx (e:Expr):Option { p:Expr × List CmpOp × List Expr × Pos // e=.Compare p.1 p.2.1 p.2.2.1 p.2.2.2 }:=match e with
  | .Compare l os rs pos=>some ⟨(l,os,rs,pos),rfl⟩
  | _=>none
noncomputable def Af0 (e:Expr):Option { p:Expr × Expr × Pos // e=.Subscript p.1 p.2.1 p.2.2 }:=match e with
  | .Subscript v s pos=>some ⟨(v,s,pos),rfl⟩
  | _=>none
noncomputable def Adv (e:Expr):Option { p:Option Expr × Option Expr × Option Expr × Pos // e=.Slice p.1 p.2.1 p.2.2.1 p.2.2.2 }:=match e with
  | .Slice l u t pos=>some ⟨(l,u,t,pos),rfl⟩
  | _=>none
noncomputable def Ahy (e:Expr):Option { p:List Expr × Nat × Pos // e=.Tuple p.1 p.2.1 p.2.2 }:=match e with
  | .Tuple xs k pos=>some ⟨(xs,k,pos),rfl⟩
  | _=>none
noncomputable def Af1 (e:Expr):Option { p:List Expr × Pos // e=.List p.1 p.2 }:=match e with
  | .List xs pos=>some ⟨(xs,pos),rfl⟩
  | _=>none
noncomputable def Af2 (e:Expr):Option { p:List (Option Expr) × List Expr × Pos // e=.Dict p.1 p.2.1 p.2.2 }:=match e with
  | .Dict ks vs pos=>some ⟨(ks,vs,pos),rfl⟩
  | _=>none
noncomputable def Aah (e:Expr):Option { p:Expr × Str × Pos // e=.Attribute p.1 p.2.1 p.2.2 }:=match e with
  | .Attribute v y pos=>some ⟨(v,y,pos),rfl⟩
  | _=>none
noncomputable def Adw (e:Expr):Option { p:Expr × List Expr × List Keyword × Pos // e=.Call p.1 p.2.1 p.2.2.1 p.2.2.2 }:=match e with
  | .Call f xs ks pos=>some ⟨(f,xs,ks,pos),rfl⟩
  | _=>none
noncomputable def Af3 (e:Expr):Option { p:Expr × List Comprehension × Scope × Pos // e=.ListComp p.1 p.2.1 p.2.2.1 p.2.2.2 }:=match e with
  | .ListComp el gs csc pos=>some ⟨(el,gs,csc,pos),rfl⟩
  | _=>none
noncomputable def Af4 (c:Const):Option { _p:Unit // c=.none }:=match c with
  | .none=>some ⟨(),rfl⟩
  | _=>none
noncomputable def Af5 (c:Const):Option { b:Bool // c=.bool b }:=match c with
  | .bool b=>some ⟨b,rfl⟩
  | _=>none
noncomputable def Ami (c:Const):Option { b:Int // c=.int b }:=match c with
  | .int b=>some ⟨b,rfl⟩
  | _=>none
noncomputable def Ahz (c:Const):Option { b:Str // c=.str b }:=match c with
  | .str b=>some ⟨b,rfl⟩
  | _=>none
noncomputable def Adx (o:UnaryOp):Option { _p:Unit // o=.USub }:=match o with
  | .USub=>some ⟨(),rfl⟩
  | _=>none
noncomputable def Aai (o:UnaryOp):Option { _p:Unit // o=.Not }:=match o with
  | .Not=>some ⟨(),rfl⟩
  | _=>none
noncomputable def Af6 (o:BoolOp):Option { _p:Unit // o=.And }:=match o with
  | .And=>some ⟨(),rfl⟩
  | _=>none
noncomputable def Amj (o:BoolOp):Option { _p:Unit // o=.Or }:=match o with
  | .Or=>some ⟨(),rfl⟩
  | _=>none
noncomputable def one {α:Type} (xs:List α):Option { x:α // xs=[x] }:=match xs with
  | [x]=>some ⟨x,rfl⟩
  | _=>none
noncomputable def two {α:Type} (xs:List α):Option { p:α × α // xs=[p.1,p.2] }:=match xs with
  | [x,y]=>some ⟨(x,y),rfl⟩
  | _=>none
noncomputable def more (xs:List Expr):Option { p:Expr × Expr × List Expr // xs=p.1 :: p.2.1 :: p.2.2 }:=match xs with
  | x :: y :: r=>some ⟨(x,y,r),rfl⟩
  | _=>none
noncomputable def Ade {α:Type} (xs:List α):Option { _p:Unit // xs=[] }:=match xs with
  | []=>some ⟨(),rfl⟩
  | _ :: _=>none
noncomputable def Ady {α:Type} (o:Option α):Option { _p:Unit // o=none }:=match o with
  | none=>some ⟨(),rfl⟩
  | some _=>none
noncomputable def M2 (e:Expr):Option { p:Str × Pos × List Expr × Pos // e=.Call (.Name p.1 p.2.1) p.2.2.1 [] p.2.2.2 }:=match Adw e with
  | some ⟨(f,xs,ks,pos),h⟩=>(match Ade ks,Lq f with
    | some ⟨_,hk⟩,some ⟨(x,np),hn⟩=>some ⟨(x,np,xs,pos),h.trans (by dsimp only at hk hn ⊢;rw [hk,hn])⟩
    | _,_=>none)
  | none=>none
noncomputable def Yv (e:Expr):Option { p:Expr × Str × Pos × List Expr × Pos // e=.Call (.Attribute p.1 p.2.1 p.2.2.1) p.2.2.2.1 [] p.2.2.2.2 /\ (p.2.2.1.endLine == p.2.2.2.2.line)=true }:=match Adw e with
  | some ⟨(f,xs,ks,pos),h⟩=>(match Ade ks,Aah f with
    | some ⟨_,hk⟩,some ⟨(o,y,apos),hn⟩=>if hl:(apos.endLine == pos.line)=true then some ⟨(o,y,apos,xs,pos),h.trans (by dsimp only at hk hn ⊢;rw [hk,hn]),hl⟩ else none
    | _,_=>none)
  | none=>none
noncomputable def Amk (gs:List Comprehension):Option { p:Str × Pos × Expr × List Expr // gs=[⟨.Name p.1 p.2.1,p.2.2.1,p.2.2.2,0⟩] }:=match one gs with
  | some ⟨⟨t,i,ifs,as⟩,h⟩=>(match Lq t with
    | some ⟨(x,px),hn⟩=>if ha:as=0 then some ⟨(x,px,i,ifs),h.trans (by dsimp only at hn ⊢;rw [hn,ha])⟩ else none
    | none=>none)
  | none=>none
noncomputable def Ah0 (N:Names) (y:Str):Ty -> Bool
  | .cls c=>D8 N.clss y c
  | t=>decide (M0 t=y)
noncomputable def seen {α:Type} (o:Option α) (f:α -> Bool):Bool:=match o with
  | some a=>f a
  | none=>false
theorem Ab {α:Type} {o:Option α} {f:α -> Bool} (h:seen o f=true):∃ a,f a=true:=by
  cases o with
  | none=>exact Aq h
  | some a=>exact ⟨a,h⟩
theorem Yw {P:Prop} {o:Option { _p:Unit // P }} (h:o.isSome=true):P:=by
  cases o with
  | none=>exact Aq h
  | some a=>exact a.2
theorem an1 {a b:Bool} (h:(a && b)=true):a=true:=by
  cases a with
  | true=>rfl
  | false=>exact Aq h
theorem an2 {a b:Bool} (h:(a && b)=true):b=true:=by
  cases a with
  | true=>exact h
  | false=>exact Aq h
theorem Sf {p q:Prop} [Decidable p] [Decidable q] (h:(decide p || decide q)=true):p \/ q:=((Bool.or_eq_true _ _).mp h).imp of_decide_eq_true of_decide_eq_true
theorem not_not {b:Bool} (h:(!b)=true):b=false:=(Bool.not_eq_true' b).mp h
mutual
noncomputable def ck (N:Names) (sc:Scope) (ns:List (Option Str)) (m:ME) (e:Expr):Bool :=
  match m with
  | .none=>(seen (M1 e) fun p1=>(Af4 p1.1.1).isSome)
  | .bool b=>(seen (M1 e) fun p1=>(seen (Af5 p1.1.1) fun p2=>b == p2.1))
  | .int i=>(seen (M1 e) fun p1=>(seen (Ami p1.1.1) fun p2=>decide (i=p2.1)))
  | .str s=>(seen (M1 e) fun p1=>(seen (Ahz p1.1.1) fun p2=>decide (s=p2.1) && decide (s.length <= 1000)))
  | .glob k=>(seen (Lq e) fun p1=>B5 sc p1.1.1 && D8 N.globs p1.1.1 k)
  | .var i=>(seen (Lq e) fun p1=>We sc ns i p1.1.1)
  | .bin op a b=>(seen (Amh e) fun p1=>Afm op p1.1.2.1 && ck N sc ns a p1.1.1 && ck N sc ns b p1.1.2.2.1)
  | .neg a=>(seen (dUn e) fun p1=>(Adx p1.1.1).isSome && ck N sc ns a p1.1.2.1)
  | .not a=>(seen (dUn e) fun p1=>(Aai p1.1.1).isSome && ck N sc ns a p1.1.2.1)
  | .and a b=>(seen (Adu e) fun p1=>(Af6 p1.1.1).isSome && (seen (more p1.1.2.1) fun p2=>ck N sc ns a p2.1.1 && (match p2.1.2.2 with
        | []=>ck N sc ns b p2.1.2.1
        | _ :: _=>ck N sc ns b (.BoolOp .And (p2.1.2.1 :: p2.1.2.2) p1.1.2.2))))
  | .or a b=>(seen (Adu e) fun p1=>(Amj p1.1.1).isSome && (seen (more p1.1.2.1) fun p2=>ck N sc ns a p2.1.1 && (match p2.1.2.2 with
        | []=>ck N sc ns b p2.1.2.1
        | _ :: _=>ck N sc ns b (.BoolOp .Or (p2.1.2.1 :: p2.1.2.2) p1.1.2.2))))
  | .cmp op a b=>(seen (Ahx e) fun p1=>decide (p1.1.2.1=[I8 op]) && (seen (one p1.1.2.2.1) fun p2=>ck N sc ns a p1.1.1 && ck N sc ns b p2.1 && D6 p2.1))
  | .cmp2 op1 op2 a b c=>(seen (Ahx e) fun p1=>decide (p1.1.2.1=[I8 op1,I8 op2]) && (seen (two p1.1.2.2.1) fun p2=>ck N sc ns a p1.1.1 && ck N sc ns b p2.1.1 && ck N sc ns c p2.1.2 && D6 p2.1.2))
  | .sub a i=>(seen (Af0 e) fun p1=>ck N sc ns a p1.1.1 && ck N sc ns i p1.1.2.1)
  | .slice a lo hi=>(seen (Af0 e) fun p1=>(seen (Adv p1.1.2.1) fun p2=>ck N sc ns a p1.1.1 && ckO N sc ns lo p2.1.1 && ckO N sc ns hi p2.1.2.1 && (Ady p2.1.2.2.1).isSome))
  | .tup es=>(seen (Ahy e) fun p1=>ckEs N sc ns es p1.1.1 && decide (p1.1.1.length <= 1000))
  | .list es=>(seen (Af1 e) fun p1=>ckEs N sc ns es p1.1.1 && decide (p1.1.1.length <= 1000))
  | .dict=>(seen (Af2 e) fun p1=>p1.1.1.isEmpty && p1.1.2.1.isEmpty)
  | .attr a n=>(seen (Aah e) fun p1=>ck N sc ns a p1.1.1 && D8 N.attrs p1.1.2.1 n && Cu p1.1.1)
  | .call f es=>(seen (M2 e) fun p1=>B5 sc p1.1.1 && D8 N.funs p1.1.1 f && ckEs N sc ns es p1.1.2.2.1 && decide (p1.1.2.2.1.length <= 20))
  | .new c es=>(seen (M2 e) fun p1=>B5 sc p1.1.1 && D8 N.clss p1.1.1 c && ckEs N sc ns es p1.1.2.2.1 && decide (p1.1.2.2.1.length <= 20))
  | .umeth a m es=>(seen (Yv e) fun p1=>ck N sc ns a p1.1.1 && D8 N.meths p1.1.2.1 m && ckEs N sc ns es p1.1.2.2.2.1 && decide (p1.1.2.2.2.1.length <= 20) && Cu p1.1.1)
  | .bf f es=>(seen (M2 e) fun p1=>B5 sc p1.1.1 && decide ((Gu f).1=p1.1.1) && decide ((Gu f).2=p1.1.2.2.1.length) && ckEs N sc ns es p1.1.2.2.1)
  | .bm a m es=>(seen (Yv e) fun p1=>ck N sc ns a p1.1.1 && decide ((Hi m).1=p1.1.2.1) && decide ((Hi m).2=p1.1.2.2.2.1.length) && ckEs N sc ns es p1.1.2.2.2.1 && Cu p1.1.1)
  | .isinst a t=>(seen (M2 e) fun p1=>(seen (two p1.1.2.2.1) fun p2=>(seen (Lq p2.1.2) fun p3=>B5 sc p1.1.1 && decide (p1.1.1=("isinstance":Str)) && B5 sc p3.1.1 && ck N sc ns a p2.1.1 && Ah0 N p3.1.1 t)))
  | .comp elt it cond=>(seen (Af3 e) fun p1=>(seen (Amk p1.1.2.1) fun p2=>ck N sc ns it p2.1.2.2.1 && D6 p2.1.2.2.1 && Jx sc p1.1.2.2.1 p2.1.1 && ck N p1.1.2.2.1 (Ep p1.1.2.2.1 ns++[some p2.1.1]) elt p1.1.1 && ckC N p1.1.2.2.1 (Ep p1.1.2.2.1 ns++[some p2.1.1]) cond p2.1.2.2.2))
noncomputable def ckO (N:Names) (sc:Scope) (ns:List (Option Str)):MEo -> Option Expr -> Bool
  | .none,none=>true
  | .some e,some x=>ck N sc ns e x
  | _,_=>false
noncomputable def ckC (N:Names) (sc:Scope) (ns:List (Option Str)):MEo -> List Expr -> Bool
  | .none,[]=>true
  | .some e,[x]=>ck N sc ns e x
  | _,_=>false
noncomputable def ckEs (N:Names) (sc:Scope) (ns:List (Option Str)):MEs -> List Expr -> Bool
  | .nil,[]=>true
  | .cons e es,x :: xs=>ck N sc ns e x && ckEs N sc ns es xs
  | _,_=>false
end
noncomputable def Adz (st:Stmt):Option { p:Expr × Pos // st=.Expr p.1 p.2 }:=match st with
  | .Expr x pos=>some ⟨(x,pos),rfl⟩
  | _=>none
noncomputable def Af7 (st:Stmt):Option { p:Expr × Expr × Pos // st=.Assign [p.1] p.2.1 p.2.2 }:=match st with
  | .Assign ts x pos=>(match one ts with
    | some ⟨t,h⟩=>some ⟨(t,x,pos),by dsimp only;rw [h]⟩
    | none=>none)
  | _=>none
noncomputable def Ad0 (st:Stmt):Option { p:Str × Pos × Expr × Pos // st=.Assign [.Name p.1 p.2.1] p.2.2.1 p.2.2.2 }:=match Af7 st with
  | some ⟨(t,x,pos),h⟩=>(match Lq t with
    | some ⟨(y,py),hn⟩=>some ⟨(y,py,x,pos),h.trans (by dsimp only at hn ⊢;rw [hn])⟩
    | none=>none)
  | none=>none
noncomputable def Ad1 (st:Stmt):Option { p:Expr × Str × Pos × Expr × Pos // st=.Assign [.Attribute p.1 p.2.1 p.2.2.1] p.2.2.2.1 p.2.2.2.2 }:=match Af7 st with
  | some ⟨(t,x,pos),h⟩=>(match Aah t with
    | some ⟨(o,y,py),hn⟩=>some ⟨(o,y,py,x,pos),h.trans (by dsimp only at hn ⊢;rw [hn])⟩
    | none=>none)
  | none=>none
noncomputable def Ad2 (st:Stmt):Option { p:Expr × Expr × Pos × Expr × Pos // st=.Assign [.Subscript p.1 p.2.1 p.2.2.1] p.2.2.2.1 p.2.2.2.2 }:=match Af7 st with
  | some ⟨(t,x,pos),h⟩=>(match Af0 t with
    | some ⟨(o,y,py),hn⟩=>some ⟨(o,y,py,x,pos),h.trans (by dsimp only at hn ⊢;rw [hn])⟩
    | none=>none)
  | none=>none
noncomputable def Af8 (st:Stmt):Option { p:Option Expr × Pos // st=.Return p.1 p.2 }:=match st with
  | .Return x pos=>some ⟨(x,pos),rfl⟩
  | _=>none
noncomputable def Aml (st:Stmt):Option { p:Expr × List Stmt × List Stmt × Pos // st=.If p.1 p.2.1 p.2.2.1 p.2.2.2 }:=match st with
  | .If x ts fs pos=>some ⟨(x,ts,fs,pos),rfl⟩
  | _=>none
noncomputable def Aaj (st:Stmt):Option { p:Expr × List Stmt × Pos // st=.While p.1 p.2.1 [] p.2.2 }:=match st with
  | .While x ts fs pos=>(match Ade fs with
    | some ⟨_,h⟩=>some ⟨(x,ts,pos),by dsimp only;rw [h]⟩
    | none=>none)
  | _=>none
noncomputable def Ah1 (st:Stmt):Option { p:Expr × Expr × List Stmt × Pos // st=.For p.1 p.2.1 p.2.2.1 [] p.2.2.2 }:=match st with
  | .For t x ts fs pos=>(match Ade fs with
    | some ⟨_,h⟩=>some ⟨(t,x,ts,pos),by dsimp only;rw [h]⟩
    | none=>none)
  | _=>none
noncomputable def Ad3 (st:Stmt):Option { p:Str × Pos × Expr × List Stmt × Pos // st=.For (.Name p.1 p.2.1) p.2.2.1 p.2.2.2.1 [] p.2.2.2.2 }:=match Ah1 st with
  | some ⟨(t,x,ts,pos),h⟩=>(match Lq t with
    | some ⟨(y,py),hn⟩=>some ⟨(y,py,x,ts,pos),h.trans (by dsimp only at hn ⊢;rw [hn])⟩
    | none=>none)
  | none=>none
noncomputable def Af9 (t:Expr):Option { p:Str × Pos × Str × Pos × Nat × Pos // t=.Tuple [.Name p.1 p.2.1,.Name p.2.2.1 p.2.2.2.1] p.2.2.2.2.1 p.2.2.2.2.2 }:=match Ahy t with
  | some ⟨(xs,k,pt),h⟩=>(match two xs with
    | some ⟨(a,b),h2⟩=>(match Lq a,Lq b with
      | some ⟨(y,py),h3⟩,some ⟨(z,pz),h4⟩=>some ⟨(y,py,z,pz,k,pt),h.trans (by dsimp only at h2 h3 h4 ⊢;rw [h2,h3,h4])⟩
      | _,_=>none)
    | none=>none)
  | none=>none
noncomputable def Ad4 (st:Stmt):Option { p:(Str × Pos × Str × Pos × Nat × Pos) × Expr × List Stmt × Pos // st=.For (.Tuple [.Name p.1.1 p.1.2.1,.Name p.1.2.2.1 p.1.2.2.2.1] p.1.2.2.2.2.1 p.1.2.2.2.2.2) p.2.1 p.2.2.1 [] p.2.2.2 }:=match Ah1 st with
  | some ⟨(t,x,ts,pos),h⟩=>(match Af9 t with
    | some ⟨q,hn⟩=>some ⟨(q,x,ts,pos),h.trans (by dsimp only;rw [hn])⟩
    | none=>none)
  | none=>none
noncomputable def Aak (e:Expr):Option { p:Str × Pos × Expr × Pos // e=.Call (.Name p.1 p.2.1) [p.2.2.1] [] p.2.2.2 }:=match M2 e with
  | some ⟨(f,fp,xs,cp),h⟩=>(match one xs with
    | some ⟨x,h2⟩=>some ⟨(f,fp,x,cp),h.trans (by dsimp only;rw [h2])⟩
    | none=>none)
  | none=>none
noncomputable def Aal (st:Stmt):Option { p:Str × Pos × Str × Nat × Pos × Pos × Pos // st=.Raise (some (.Call (.Name p.1 p.2.1) [.Constant (.str p.2.2.1) p.2.2.2.1 p.2.2.2.2.1] [] p.2.2.2.2.2.1)) none p.2.2.2.2.2.2 }:=match st with
  | .Raise (some e) o pos=>(match Ady o,Aak e with
    | some ⟨_,h1⟩,some ⟨(f,fp,x,cp),h2⟩=>(match M1 x with
      | some ⟨(c,k,mp),h3⟩=>(match Ahz c with
        | some ⟨m,h4⟩=>some ⟨(f,fp,m,k,mp,cp,pos),by dsimp only at h2 h3 ⊢;rw [h1,h2,h3,h4]⟩
        | none=>none)
      | none=>none)
    | _,_=>none)
  | _=>none
noncomputable def Aga (st:Stmt):Option { p:List Stmt × ExceptHandler × List ExceptHandler × Pos // st=.Try p.1 (p.2.1 :: p.2.2.1) [] [] p.2.2.2 }:=match st with
  | .Try ts hs a b pos=>(match hs,Ade a,Ade b with
    | h :: hx,some ⟨_,h1⟩,some ⟨_,h2⟩=>some ⟨(ts,h,hx,pos),by dsimp only;rw [h1,h2]⟩
    | _,_,_=>none)
  | _=>none
noncomputable def Sg:ME -> Bool
  | .comp ..=>false
  | _=>true
noncomputable def Sh (hd:ExceptHandler):Option { p:Str × Pos × Option Str × Stmt × List Stmt × Pos // hd=.ExceptHandler (some (.Name p.1 p.2.1)) p.2.2.1 (p.2.2.2.1 :: p.2.2.2.2.1) p.2.2.2.2.2 }:=match hd with
  | .ExceptHandler (some (.Name x xp)) y (t :: ts) pos=>some ⟨(x,xp,y,t,ts,pos),rfl⟩
  | _=>none
noncomputable def Yx (sc:Scope) (ns:List (Option Str)) (i:Option Nat) (y:Option Str):Bool:=match i with
  | none=>y.isNone
  | some i=>(match y with
    | some y=>Ft sc ns i y && decide (sc.names.lookup y=some .local)
    | none=>false)
mutual
noncomputable def ckS (N:Names) (sc:Scope) (ns:List (Option Str)) (m:MS) (st:Stmt):Bool :=
  match m with
  | .expr e=>(seen (Adz st) fun p1=>ck N sc ns e p1.1.1 && Sg e)
  | .assign i e=>(seen (Ad0 st) fun p1=>Ft sc ns i p1.1.1 && ck N sc ns e p1.1.2.2.1)
  | .setattr o n e=>(seen (Ad1 st) fun p1=>ck N sc ns e p1.1.2.2.2.1 && ck N sc ns o p1.1.1 && D8 N.attrs p1.1.2.1 n)
  | .setitem o i e=>(seen (Ad2 st) fun p1=>ck N sc ns e p1.1.2.2.2.1 && ck N sc ns o p1.1.1 && ck N sc ns i p1.1.2.1)
  | .ret e=>(seen (Af8 st) fun p1=>ckO N sc ns e p1.1.1)
  | .ite c t f=>(seen (Aml st) fun p1=>ck N sc ns c p1.1.1 && ckSs N sc ns t p1.1.2.1 && ckSs N sc ns f p1.1.2.2.1)
  | .loop c b=>(seen (Aaj st) fun p1=>ck N sc ns c p1.1.1 && ckSs N sc ns b p1.1.2.1)
  | .each i it b=>(seen (Ad3 st) fun p1=>Ft sc ns i p1.1.1 && ck N sc ns it p1.1.2.2.1 && D6 p1.1.2.2.1 && ckSs N sc ns b p1.1.2.2.2.1)
  | .eachPair i j it b=>(seen (Ad4 st) fun p1=>Ft sc ns i p1.1.1.1 && Ft sc ns j p1.1.1.2.2.1 && ck N sc ns it p1.1.2.1 && D6 p1.1.2.1 && ckSs N sc ns b p1.1.2.2.1)
  | .raise c msg=>(seen (Aal st) fun p1=>B5 sc p1.1.1 && D8 N.clss p1.1.1 c && decide (p1.1.2.2.1=msg) && ckEs N sc ns (.cons (.str msg) .nil) [.Constant (.str p1.1.2.2.1) p1.1.2.2.2.1 p1.1.2.2.2.2.1])
  | .tryx b hs=>(seen (Aga st) fun p1=>ckSs N sc ns b p1.1.1 && ckHs N sc ns hs (p1.1.2.1 :: p1.1.2.2.1))
noncomputable def ckSs (N:Names) (sc:Scope) (ns:List (Option Str)):MSs -> List Stmt -> Bool
  | .nil,[]=>true
  | .cons s ss,x :: xs=>ckS N sc ns s x && ckSs N sc ns ss xs
  | _,_=>false
noncomputable def ckHs (N:Names) (sc:Scope) (ns:List (Option Str)):MHs -> List ExceptHandler -> Bool
  | .nil,[]=>true
  | .cons c i b hs,hd :: hx=>(seen (Sh hd) fun p1=>B5 sc p1.1.1 && D8 N.clss p1.1.1 c && ckSs N sc ns b (p1.1.2.2.2.1 :: p1.1.2.2.2.2.1) && Yx sc ns i p1.1.2.2.1) && ckHs N sc ns hs hx
  | _,_=>false
end
noncomputable def I0:List (Option Str) -> Bool
  | []=>true
  | none :: r=>I0 r
  | some x :: r=>!(r.contains (some x)) && I0 r
noncomputable def ckF (N:Names) (f:MFun) (ns:List Str) (params:Arguments) (body:List Stmt) (sc:Scope):Bool :=
  decide (f.arity+f.nvars=ns.length) && (decide (ns.take f.arity=params.args.map (·.arg)) && (params.posonlyargs.isEmpty && (params.vararg.isNone && (params.kwonlyargs.isEmpty && (params.kwarg.isNone &&
  (I0 (ns.map some) && (!sc.isCoroutine && (!sc.isGenerator && (decide (sc.kind=.function) && (ckSs N sc (ns.map some) f.body body &&
  ((sc.names.all fun p=>decide (sc.names.lookup p.1=some p.2) && !decide (p.2=.free)) &&
  (ns.take f.arity).all fun y=>decide (sc.names.lookup y=some .local) || decide (sc.names.lookup y=some .cell))))))))))))
section
variable {α β:Type} {cx:Cx} {A:Around} {P:Amb} {H:Hp} {ρ:Rho} {s:Shared} {t:Sem α} {V:β -> α -> Amb}
theorem At {b:β} (R:Rel cx H ρ s) (k:∀ (Q:α -> Shared -> Prop) (E:Value -> Shared -> Prop),(∀ a tk,(V b a).P ρ s.heap -> Q a { s with toks:=tk }) -> wpAny (model cx.prog cx.w) A t Q E s):Bg cx A (.ok b H) t V ρ s :=
  k _ _ fun a tk v=>⟨ρ,Full.refl _ _,R.toks tk,v⟩
theorem Rel.newList {xs:List Val} {vs:List Value} (tk:Nat) (R:Rel cx H ρ s) (r:VRs cx ρ s.heap xs vs) (z:xs.length <= sizeLine) :
    ∃ ρ',Full ρ s.heap ρ' (s.heap.push (B1 vs 0)) /\ Rel cx (H++[.list xs]) ρ' { s with heap:=s.heap.push (B1 vs 0),toks:=tk } /\ VR cx ρ' (s.heap.push (B1 vs 0)) (.loc H.length) (.ref s.heap.objs.size):=by
  have kp:∀ b o,s.heap.get? b=some o -> (s.heap.push (B1 vs 0)).get? b=some o:=fun b o e=>Heap.get?_push_of_some _ e
  obtain ⟨F,R'⟩:=R.alloc (tk:=tk) (o:=.list xs) (p:=(s.heap.objs.size,s.heap.objs.size)) kp ⟨Ar _,Ar _⟩
    (.list (n:=0) (Heap.get?_push_size _ rfl) (r.step (Full.alloc kp ⟨Ar _,Ar _⟩).step) z)
  refine ⟨_,F,R',?_⟩
  rw [R.len]
  exact VR.loc (p:=(s.heap.objs.size,s.heap.objs.size)) (by rw [List.getElem?_append_right (Nat.le_refl _)];simp)
theorem Qp {t:Sem Value} {xs:List Val} {vs:List Value} {tk:Nat} (R:Rel cx H ρ s) (r:VRs cx ρ s.heap xs vs) (z:xs.length <= sizeLine)
    (k:∀ (Q:Value -> Shared -> Prop) (E:Value -> Shared -> Prop),Q (.ref s.heap.objs.size) { s with heap:=s.heap.push (B1 vs 0),toks:=tk } -> wpAny (model cx.prog cx.w) A t Q E s) :
    Bg cx A (.ok (.loc H.length) (H++[.list xs])) t (Amb.vr cx) ρ s :=
  k _ _ (R.newList tk r z)
end
theorem Dr:lid=sizeLine:=by skip;rfl
section
variable {cx:Cx} {A:Around} {P:Amb} {a b:Val} {v w:Value}
theorem Pf {x:Int} (h:Eo x=true):Builtin.Int.intBits x <= 64:=by
  unfold Eo at h
  simp only [Bool.and_eq_true,decide_eq_true_eq] at h
  exact intBits_le_64 h.1 h.2
theorem Rel.listAt {H:Hp} {ρ:Rho} {s:Shared} (R:Rel cx H ρ s) {l:Nat} {xs:List Val} {p:Addr × Addr} (hH:H[l]?=some (.list xs)) (hρ:ρ[l]?=some p) :
    ∃ vs n,p.2=p.1 /\ s.heap.get? p.1=some (B1 vs n) /\ VRs cx ρ s.heap xs vs /\ xs.length <= sizeLine:=by
  have:=R.objs l _ p hH hρ
  generalize ho:HObj.list xs=o at this
  cases this with
  | list e r z=>cases ho;exact ⟨_,_,rfl,e,r,z⟩
  | dict _ _ _=>cases ho
  | inst _ _ _ _ _ _ _ _ _ _=>cases ho
  | hid _=>cases ho
theorem VR.int_inv {ρ:Rho} {h:Heap} {i:Int} (x:VR cx ρ h (.int i) v):∃ t,v=.int i t:=by cases x;exact ⟨_,rfl⟩
theorem VR.str_inv {ρ:Rho} {h:Heap} {i:Str} (x:VR cx ρ h (.str i) v):∃ t,v=.str i t /\ i.length <= sizeLine:=by cases x;exact ⟨_,rfl,by assumption⟩
theorem VR.none_inv {ρ:Rho} {h:Heap} (x:VR cx ρ h .none v):v=.none:=by cases x;rfl
theorem VR.loc_inv {ρ:Rho} {h:Heap} {l:Nat} (x:VR cx ρ h (.loc l) v):∃ p,ρ[l]?=some p /\ v=.ref p.1:=by cases x;exact ⟨_,by assumption,rfl⟩
theorem VRs.nil_inv {ρ:Rho} {h:Heap} {vs:List Value} (x:VRs cx ρ h [] vs):vs=[]:=by cases x;rfl
theorem VRs.cons_inv {ρ:Rho} {h:Heap} {m:Val} {ms:List Val} {vs:List Value} (x:VRs cx ρ h (m :: ms) vs):∃ v vs',vs=v :: vs' /\ VR cx ρ h m v /\ VRs cx ρ h ms vs':=by cases x;exact ⟨_,_,rfl,by assumption,by assumption⟩
theorem VRs.one_inv {ρ:Rho} {h:Heap} {m:Val} {vs:List Value} (x:VRs cx ρ h [m] vs):∃ v,vs=[v] /\ VR cx ρ h m v:=by
  refine ex2 x.cons_inv fun v vs' zz=>Av zz fun zr2 y z=>?_;subst zr2
  exact ⟨v,by rw [z.nil_inv],y⟩
theorem VRs.two_inv {ρ:Rho} {h:Heap} {m n:Val} {vs:List Value} (x:VRs cx ρ h [m,n] vs):∃ v w,vs=[v,w] /\ VR cx ρ h m v /\ VR cx ρ h n w:=by
  refine ex2 x.cons_inv fun v vs' zz=>Av zz fun zr2 y z=>?_;subst zr2
  refine ex1 z.one_inv fun w zz=>Ad zz fun hr1 u=>?_;refine Eq.symm hr1▸?_
  exact ⟨v,w,rfl,y,u⟩
theorem Aam {op:BOp} {o:Operator} (ho:Afm op o=true) (h1:∀ ρ h,P.P ρ h -> VR cx ρ h a v) (h2:∀ ρ h,P.P ρ h -> VR cx ρ h b w):Sim cx A P (binaryOp o v w) (Adc op a b) (Amb.vr cx):=by
  intro H ρ s R p
  have x1:=h1 _ _ p
  have x2:=h2 _ _ p
  clear h1 h2 p
  have ho':bOp op=o:=of_decide_eq_true ho
  subst ho'
  clear ho
  cases op with
  | add =>
    cases a with
    | int i =>
      cases b with
      | int j =>
        obtain ⟨_,rfl⟩:=x1.int_inv
        obtain ⟨_,rfl⟩:=x2.int_inv
        exact At R fun Q E k=>PyProof.Rows.add_int (k _ _ (.int _ _))
      | _=>trivial
    | str x =>
      cases b with
      | str y =>
        refine ex1 x1.str_inv fun _ zz=>Ad zz fun zr1 _=>?_;subst zr1
        refine ex1 x2.str_inv fun _ zz=>Ad zz fun hr3 _=>?_;refine Eq.symm hr3▸?_
        show Bg cx A ((if x.length+y.length <= lid then M.ret (Val.str (x++y)) else M.bad) H) _ _ ρ s
        by_cases q:x.length+y.length <= lid
        · rw [if_pos q]
          rw [Dr] at q
          exact At R fun Q E k=>PyProof.Rows.add_str (fun t' tk=>k _ _ (.str _ _ (by rw [strLen_append];exact q))) q
        · rw [if_neg q];trivial
      | _=>trivial
    | loc l1 =>
      cases b with
      | loc l2 =>
        refine ex1 x1.loc_inv fun p1 zz=>Ad zz fun e1 hr4=>?_;refine Eq.symm hr4▸?_
        refine ex1 x2.loc_inv fun p2 zz=>Ad zz fun e2 hr5=>?_;refine Eq.symm hr5▸?_
        show Bg cx A (match H[l1]?,H[l2]? with
          | some (.list xs),some (.list ys)=>if xs.length+ys.length <= lid then M.alloc (.list (xs++ys)) H else .bad
          | _,_=>.bad) _ _ ρ s
        cases q1:H[l1]? with
        | none=>trivial
        | some o1 =>
        cases o1 with
        | list xs =>
          cases q2:H[l2]? with
          | none=>trivial
          | some o2 =>
          cases o2 with
          | list ys =>
           refine Ah fun G kG=>?_
           refine ex2 (R.listAt q1 e1) fun vs n zz=>Cg zz fun _ g1 r1 _=>?_
           refine ex2 (R.listAt q2 e2) fun ws m zz=>Cg zz fun _ g2 r2 _=>?_
           refine kG ?_
           show Bg cx A (if xs.length+ys.length <= lid then M.alloc (.list (xs++ys)) H else .bad) _ _ ρ s
           by_cases q:xs.length+ys.length <= lid
           · rw [if_pos q]
             rw [Dr] at q
             refine Qp (vs:=vs++ws) (tk:=s.toks) R (r1.append r2) (by rw [List.length_append];exact q) fun Q E k=>?_
             refine PySem.P.add_list (items:=vs.toArray) (items2:=ws.toArray) (n:=n) (n2:=m) g1 g2 ?_ (by simp only [List.size_toArray];rw [<- r1.length,<- r2.length];exact q)
             simpa [B1] using k
           · rw [if_neg q];trivial
          | _=>trivial
        | _=>trivial
      | _=>trivial
    | _=>trivial
  | sub =>
    cases a with
    | int i =>
      cases b with
      | int j =>
        obtain ⟨_,rfl⟩:=x1.int_inv
        obtain ⟨_,rfl⟩:=x2.int_inv
        exact At R fun Q E k=>PyProof.Rows.sub_int (k _ _ (.int _ _))
      | _=>trivial
    | _=>trivial
  | mul =>
    cases a with
    | int i =>
      cases b with
      | int j =>
        obtain ⟨_,rfl⟩:=x1.int_inv
        obtain ⟨_,rfl⟩:=x2.int_inv
        show Bg cx A ((if (Eo i || Eo j)=true then M.ret (Val.int (i * j)) else M.bad) H) _ _ ρ s
        by_cases q:(Eo i || Eo j)=true
        · rw [if_pos q]
          refine At R fun Q E k=>PyProof.Rows.mul_int (k _ _ (.int _ _)) ?_
          rcases (Bool.or_eq_true _ _).mp q with q | q
          · exact IntMulOk.of_left (Pf q)
          · exact IntMulOk.of_right (Pf q)
        · rw [if_neg q];trivial
      | _=>trivial
    | _=>trivial
  | fdiv =>
    cases a with
    | int i =>
      cases b with
      | int j =>
        obtain ⟨_,rfl⟩:=x1.int_inv
        obtain ⟨_,rfl⟩:=x2.int_inv
        show Bg cx A ((if j=0 \/ 1073741824 <= j.natAbs then M.bad else M.ret (Val.int (Int.fdiv i j))) H) _ _ ρ s
        by_cases q:j=0 \/ 1073741824 <= j.natAbs
        · rw [if_pos q];trivial
        · rw [if_neg q]
          exact At R fun Q E k=>PyProof.Rows.floordiv_int (fun e=>q (.inl e)) (k _ _ (.int _ _)) (.inl (PyProof.noPylong_small (by exact o4 q)))
      | _=>trivial
    | _=>trivial
  | mod =>
    cases a with
    | int i =>
      cases b with
      | int j =>
        obtain ⟨_,rfl⟩:=x1.int_inv
        obtain ⟨_,rfl⟩:=x2.int_inv
        show Bg cx A ((if j=0 then M.bad else M.ret (Val.int (Int.fmod i j))) H) _ _ ρ s
        by_cases q:j=0
        · rw [if_pos q];trivial
        · rw [if_neg q]
          exact At R fun Q E k=>PyProof.Rows.mod_int' q (k _ _ (.int _ _))
      | _=>trivial
    | _=>trivial
end
structure FnOk (cx:Cx) (N:Names) (a:Addr) (f:MFun):Prop where
  is:∃ o fd body ns,cx.h₀.get? a=some o /\ o.cls=.type "function" /\ o.data=.func fd /\ cx.h₀.CodeRec fd.code fd.qualname /\ fd.body=.stmts body /\ fd.closure=[] /\ fd.globals=mainGlobals /\ fd.builtins=builtinsNs /\
    fd.defaults=.none /\ fd.kwdefaults=.none /\ ckF N f ns fd.params body fd.scope=true
structure ClsOk (cx:Cx) (N:Names) (c:Nat) (C:Addr):Prop where
  is:∃ nm q Nn bs sn sub col dd k0 k1 k2 k3 k5 mN,cx.h₀.get? C=some (excClassObj nm q C Nn bs [.type "object"] true sn sub false col dd k0 k1 k2 k3 k5 "object.__new__") /\ cx.h₀.Ns Nn mN /\
    mN "__getattribute__"=none /\ mN "__getattr__"=none /\ mN "__setattr__"=none /\
    (∀ (n:Nat) (y:Str),cx.attrs[n]?=some y -> mN y=none /\ typeLookup (.type "object") y=pure none) /\
    (∀ (y:Str) (m k:Nat),N.meths.lookup y=some m -> cx.T.meth c m=some k -> ∃ fa o fd,cx.fns[k]?=some fa /\ mN y=some (.ref fa) /\ cx.h₀.get? fa=some o /\ o.cls=.type "function" /\ o.data=.func fd /\ (∀ n:Nat,cx.attrs[n]?≠some y) /\ ∃ r,typeLookup (.type "object") y=pure r)
structure ClsBase (cx:Cx) (N:Names):Prop where
  attr:∀ (y:Str) (n:Nat),N.attrs.lookup y=some n -> cx.attrs[n]?=some y
  inj:∀ (i j:Nat) (y:Str),cx.attrs[i]?=some y -> cx.attrs[j]?=some y -> i=j
  few:cx.attrs.length <= sizeLine
  init:N.meths.lookup ("__init__":Str)=some 0
  ref:∀ (c:Nat) (v:Value),cx.cls[c]?=some v -> (cx.T.meth c 0).isSome=true -> ∃ C,v=.ref C
  cls:∀ (c:Nat) (C:Addr),cx.cls[c]?=some (.ref C) -> (cx.T.meth c 0).isSome=true -> ClsOk cx N c C
noncomputable def Agb:List Value:=[.type "ValueError",.type "Exception",.type "BaseException",.type "object"]
structure ExcOk (cx:Cx) (c:Nat) (C:Addr):Prop where
  is:∃ nm q Nn bs bm hdct sn sub ab col dd k0 k1 k2 k3 k5 mN,cx.h₀.get? C=some (excClassObj nm q C Nn bs bm hdct sn sub ab col dd k0 k1 k2 k3 k5 "ValueError.__new__") /\ cx.h₀.Ns Nn mN /\ mN "__init__"=none /\ OwnTail cx.h₀ Agb bm /\
    ∀ (d:Nat) (D:Value),cx.cls[d]?=some D -> cx.T.sub c d=(Value.ref C :: bm).contains D
  isi:∃ K:PySem.W.Frag,K.In cx.h₀ /\ ExcK K C /\ ∀ (d:Nat) (D:Value),cx.cls[d]?=some D -> Pe K D=true /\ PySem.W.mroIn K C D=some (cx.T.sub c d)
structure Base (cx:Cx) (N:Names):Prop where
  ns:∃ mg mb,cx.h₀.Ns mainGlobals mg /\ cx.h₀.Ns builtinsNs mb /\
    (∀ x k,N.funs.lookup x=some k -> ∃ a,cx.fns[k]?=some a /\ mg x=some (.ref a)) /\
    (∀ x k,N.globs.lookup x=some k -> ∃ v val,cx.T.globs[k]?=some v /\ mg x=some val /\ ∀ ρ h,VR cx ρ h v val) /\
    (∀ x c,N.clss.lookup x=some c -> ∃ C,cx.cls[c]?=some C /\ (mg x=some C \/ (mg x=none /\ mb x=some C))) /\
    (∀ p∈Iz,mg p.1=none /\ mb p.1=some p.2)
  lim:cx.h₀.NoLimit
  fns:∀ (k:Nat) (a:Addr) (f:MFun),cx.fns[k]?=some a -> cx.T.funs[k]?=some f -> FnOk cx N a f
  cls:ClsBase cx N
  exc:∀ c:Nat,cx.T.isExc c=true -> ∃ C,cx.cls[c]?=some (.ref C) /\ ExcOk cx c C
theorem Cw {l:List (Str × Nat)} {x:Str} {k:Nat} (h:D8 l x k=true):l.lookup x=some k:=of_decide_eq_true h
theorem Si {sc:Scope} {x:Str} (h:B5 sc x=true):sc.names.lookup x=some .globalImplicit /\ (x == ("__debug__":Str))=false:=⟨of_decide_eq_true (an1 h),not_not (an2 h)⟩
theorem Wf {sc:Scope} {ns:List (Option Str)} {i:Nat} {x:Str} (h:We sc ns i x=true) :
    (sc.names.lookup x=some .local \/ sc.names.lookup x=some .cell \/ sc.names.lookup x=some .free) /\ ns[i]?=some (some x) /\ (x == ("__debug__":Str))=false /\ (x == ("__classdict__":Str))=false :=
  ⟨((Bool.or_eq_true _ _).mp (an1 h)).imp of_decide_eq_true Sf,of_decide_eq_true (an1 (an2 h)),not_not (an1 (an2 (an2 h))),not_not (an2 (an2 (an2 h)))⟩
section
variable {cx:Cx} {N:Names} {A:Around} {env:Env} {sc:Scope} {ns:List (Option Str)} {Γ:Env'}
theorem Sj {i:Nat} {x:Str} {pos:Pos} (hv:We sc ns i x=true) (Φ:Funs):Sim cx A (Amb.env cx env sc ns Γ) (eval (.Name x pos) env) (Am cx.T Φ (.var i) Γ) (Amb.vr cx):=by
  refine Ah fun G kG=>?_
  refine Cg (Wf hv) fun _ hn hd hc=>?_
  refine kG ?_
  intro H ρ s R p
  rw [Adk]
  cases e:Γ[i]? with
  | none=>trivial
  | some o =>
    cases o with
    | none=>trivial
    | some mv =>
      refine ex1 (p.vals i x mv hn e) fun v zz=>Ad zz fun q r=>?_
      refine At R fun Q E k=>?_
      have k':=k v s.toks r
      rcases q with ⟨kd,m,hm,hv⟩ | ⟨kd,c,hc',hv⟩
      · exact wpAny_Name (wpAny_loadName_local p.st.fn kd hm hv k') hd
      · rcases kd with kd | kd
        · exact wpAny_Name (wpAny_loadName_cell p.st.fn kd hc' hv k') hd
        · exact wpAny_Name (wpAny_loadName_free p.st.fn kd hc' hv k' hc) hd
theorem wp_glob {ρ:Rho} {s:Shared} {H:Hp} {x:Str} {pos:Pos} {mg mb:Str -> Option Value} {v:Value} {Q:Value -> Shared -> Prop} {E:Value -> Shared -> Prop} (R:Rel cx H ρ s) (p:EnvSt cx env sc ρ s.heap) (hg:B5 sc x=true)
    (ng:cx.h₀.Ns mainGlobals mg) (nb:cx.h₀.Ns builtinsNs mb) (hv:mg x=some v \/ (mg x=none /\ mb x=some v)) (h:Q v s):wpAny (model cx.prog cx.w) A (eval (.Name x pos) env) Q E s:=by
  obtain ⟨h1,h2⟩:=Si hg
  have kd:env.kindOf x=some .globalImplicit:=p.kinds x _ h1
  have ng':s.heap.Ns env.globals mg:=by rw [p.glob];exact ng.keeps R.base
  have nb':s.heap.Ns env.builtins mb:=by rw [p.blt];exact nb.keeps R.base
  refine Calls.Name_function_global p.fn kd ?_ h2
  rcases hv with hv | ⟨h0,hv⟩
  · exact Calls.loadGlobal_global ng' hv h
  · exact Calls.loadGlobal_builtin ng' h0 nb' hv h
theorem Wg (B:Base cx N) {k:Nat} {x:Str} {pos:Pos} (hg:B5 sc x=true) (hk:D8 N.globs x k=true) (Φ:Funs):Sim cx A (Amb.env cx env sc ns Γ) (eval (.Name x pos) env) (Am cx.T Φ (.glob k) Γ) (Amb.vr cx):=by
  refine Ah fun G kG=>?_
  refine ex2 B.ns fun mg mb zz=>Fc zz fun ng nb _ q _=>?_
  refine ex2 (q x k (Cw hk)) fun v val zz=>Av zz fun e1 e2 r=>?_
  refine kG ?_
  intro H ρ s R p
  rw [Aad,e1]
  exact At R fun Q E k=>wp_glob R p.st hg ng nb (.inl e2) (k _ s.toks (r _ _))
theorem Qq {a:Val} {v:Value} {P:Amb} (h:∀ ρ h,P.P ρ h -> VR cx ρ h a v):Sim cx A P (truthy v) (C8 a) (fun b b'=>Amb.prop (b'=b)):=by
  intro H ρ s R p
  have x:=h _ _ p
  cases x with
  | bool b=>exact At R fun Q E k=>wpAny_truthy_bool (k _ s.toks rfl)
  | _=>trivial
theorem Aan {a:Val} {v:Value} {P:Amb} (h:∀ ρ h,P.P ρ h -> VR cx ρ h a v):Sim cx A P (unaryOp .USub v) (match a with | .int i=>M.ret (Val.int (-i)) | _=>.bad) (Amb.vr cx):=by
  intro H ρ s R p
  have x:=h _ _ p
  cases x with
  | int i t=>exact At R fun Q E k=>PyProof.Rows.neg_int (k _ _ (.int _ _))
  | _=>trivial
theorem Aao {a:Val} {v:Value} {P:Amb} (h:∀ ρ h,P.P ρ h -> VR cx ρ h a v):Sim cx A P (unaryOp .Not v) ((C8 a).bnd fun b=>M.ret (Val.bool (!b))) (Amb.vr cx):=by
  intro H ρ s R p
  have x:=h _ _ p
  cases x with
  | bool b=>exact At R fun Q E k=>not_value (wpAny_truthy_bool (k _ s.toks (.bool _)))
  | _=>trivial
end
section
variable {cx:Cx} {H:Hp} {ρ:Rho} {s:Shared}
theorem Id {n:Nat} {f:Val -> Option PyData} (ih:∀ {m:Val} {v:Value} {d:PyData},VR cx ρ s.heap m v -> f m=some d -> (∃ as,Reads s.heap v d as) /\ d.canLay0=true /\ d.depth <= n) :
    ∀ {xs:List Val} {vs:List Value} {ds:List PyData},VRs cx ρ s.heap xs vs -> Jo f xs=some ds -> (∃ as,ReadsAll s.heap vs ds as) /\ PyData.canLayAll0 ds=true /\ PyData.depthAll ds <= n:=by
  intro xs
  induction xs with
  | nil =>
    intro vs ds r h
    cases r
    cases h
    exact ⟨⟨_,.nil⟩,rfl,Nat.zero_le _⟩
  | cons x xs hi =>
    intro vs ds r h
    cases r with
    | cons a r =>
      refine R9 (C:=fun ds=>(∃ as,ReadsAll s.heap _ ds as) /\ PyData.canLayAll0 ds=true /\ PyData.depthAll ds <= n) h fun d ds' e1 e2=>?_
      refine Ah fun G kG=>?_
      refine Av (ih a e1) fun zn0 h2 h3=>?_;obtain ⟨as,h1⟩:=zn0
      refine Av (hi r e2) fun zn0 g2 g3=>?_;obtain ⟨bs,g1⟩:=zn0
      refine kG ?_
      exact ⟨⟨_,.cons h1 g1⟩,(Bool.and_eq_true _ _).mpr ⟨h2,g2⟩,Nat.max_le.mpr ⟨h3,g3⟩⟩
theorem Lr {α:Type} {p:Prop} [Decidable p] {x y:α} (h:(if p then some x else none)=some y):p /\ x=y:=by
  by_cases q:p
  · rw [if_pos q] at h;exact ⟨q,Option.some.inj h⟩
  · rw [if_neg q] at h;exact Ae h
theorem E3 {n:Nat} {m:Val} {v:Value} {d:PyData} (x:VR cx ρ s.heap m v) (h:Ry m=some d):(∃ as,Reads s.heap v d as) /\ d.canLay0=true /\ d.depth <= n:=by
  cases x with
  | none=>cases h;exact ⟨⟨_,.none⟩,rfl,Nat.zero_le _⟩
  | bool b=>cases h;exact ⟨⟨_,.bool b⟩,rfl,Nat.zero_le _⟩
  | int i t=>cases h;exact ⟨⟨_,.int i t⟩,rfl,Nat.zero_le _⟩
  | str y t z =>
    obtain ⟨h1,h2⟩:=Lr h
    cases h2;exact ⟨⟨_,.str y t⟩,h1,Nat.zero_le _⟩
  | _=>exact Ae h
theorem C6 (R:Rel cx H ρ s):∀ (n:Nat) {m:Val} {v:Value} {d:PyData},VR cx ρ s.heap m v -> A6 H n m=some d -> (∃ as,Reads s.heap v d as) /\ d.canLay0=true /\ d.depth <= n:=by
  intro n
  induction n with
  | zero=>exact fun x h=>E3 x h
  | succ n ih =>
    intro m v d x h
    cases x with
    | @tup a vs k ms e no z r =>
      refine Ah fun G kG=>?_
      refine ex1 (Option.map_eq_some_iff.mp h) fun ds zz=>Ad zz fun h1 zr2=>?_;subst zr2
      refine Av (Id (n:=n) (fun x h=>ih x h) r h1) fun zn0 g2 g3=>?_;obtain ⟨as,g1⟩:=zn0
      refine kG ?_
      exact ⟨⟨_,.tuple e rfl rfl (by simpa using g1)⟩,g2,Nat.succ_le_succ g3⟩
    | @loc l p e =>
      have h:(match H[l]? with | some (.list vs)=>(Jo (A6 H n) vs).map .list | _=>none)=some d:=h
      cases hl:H[l]? with
      | none=>rw [hl] at h;exact Ae h
      | some o =>
        rw [hl] at h
        cases o with
        | list xs =>
          refine Ah fun G kG=>?_
          refine ex1 (Option.map_eq_some_iff.mp h) fun ds zz=>Ad zz fun h1 zr2=>?_;subst zr2
          refine ex2 (R.listAt hl e) fun vs k zz=>Cg zz fun _ g r _=>?_
          refine Av (Id (n:=n) (fun x h=>ih x h) r h1) fun zn0 g2 g3=>?_;obtain ⟨as,g1⟩:=zn0
          refine kG ?_
          exact ⟨⟨_,.list g rfl rfl (by simpa using g1)⟩,g2,Nat.succ_le_succ g3⟩
        | _=>exact Ae h
    | none=>exact E3 (cx:=cx) (ρ:=ρ) .none h
    | bool b=>exact E3 (cx:=cx) (ρ:=ρ) (.bool b) h
    | int i t=>exact E3 (cx:=cx) (ρ:=ρ) (.int i t) h
    | str y t z=>exact E3 (cx:=cx) (ρ:=ρ) (.str y t z) h
    | _=>exact Ae h
end
section
variable {cx:Cx} {A:Around} {P:Amb} {a b:Val} {v w:Value} {H:Hp} {ρ:Rho} {s:Shared}
theorem Hj {d:PyData} (h:d.canLay0=true) (k:d.depth <= Gp):SeqAt.shaped d=true:=by
  unfold SeqAt.shaped;rw [h];exact decide_eq_true (Nat.le_trans k (show 6 <= 64 by decide))
theorem Agc (R:Rel cx H ρ s) (x:VR cx ρ s.heap a v) (y:VR cx ρ s.heap b w) {r:Bool} (e:Gq H a b=some r) (hu:A.units+100 < cLine) {Q:Value -> Shared -> Prop} {E:Value -> Shared -> Prop} (k:Q (.bool r) s) :
    wpAny (model cx.prog cx.w) A (compareOp .Eq v w) Q E s:=by
  revert k
  refine V9 (C:=fun r=>Q (.bool r) s -> _) e fun d1 d2 e1 e2 k=>?_
  refine Ah fun G kG=>?_
  refine Av (C6 R Gp x e1) fun zn0 g2 g3=>?_;obtain ⟨as,g1⟩:=zn0
  refine Av (C6 R Gp y e2) fun zn0 f2 f3=>?_;obtain ⟨bs,f1⟩:=zn0
  refine kG ?_
  exact SeqAt.compareEq_shaped g1 f1 (Hj g2 g3) (Hj f2 f3) (by exact o5 hu) k
theorem Agd (R:Rel cx H ρ s) (x:VR cx ρ s.heap a v) (y:VR cx ρ s.heap b w) {r:Bool} (e:Gq H a b=some r) (hu:A.units+100 < cLine) {Q:Value -> Shared -> Prop} {E:Value -> Shared -> Prop} (k:Q (.bool (!r)) s) :
    wpAny (model cx.prog cx.w) A (compareOp .NotEq v w) Q E s:=by
  revert k
  refine V9 (C:=fun r=>Q (.bool (!r)) s -> _) e fun d1 d2 e1 e2 k=>?_
  refine Ah fun G kG=>?_
  refine Av (C6 R Gp x e1) fun zn0 g2 g3=>?_;obtain ⟨as,g1⟩:=zn0
  refine Av (C6 R Gp y e2) fun zn0 f2 f3=>?_;obtain ⟨bs,f1⟩:=zn0
  refine kG ?_
  exact SeqAt.compareNe_shaped g1 f1 (Hj g2 g3) (Hj f2 f3) (by exact o5 hu) k
theorem M3 {r:Bool} (x:VR cx ρ s.heap a v) (h:isV a .none=some r):r=(v == .none):=by
  cases x with
  | none=>exact (Option.some.inj h).symm
  | _=>exact (Option.some.inj h).symm
theorem Rel.dictAt (R:Rel cx H ρ s) {l:Nat} {es:List (Key × Val)} {p:Addr × Addr} (hH:H[l]?=some (.dict es)) (hρ:ρ[l]?=some p) :
    ∃ xs,p.2=p.1 /\ s.heap.DictOfH (cellKind cx) p.1 xs /\ DRs cx ρ s.heap es xs /\ es.length <= sizeLine:=by
  have:=R.objs l _ p hH hρ
  generalize ho:HObj.dict es=o at this
  cases this with
  | list e r z=>exact nomatch ho
  | dict d r z=>cases ho;exact ⟨_,rfl,d,r,z⟩
  | inst _ _ _ _ _ _ _ _ _ _=>exact nomatch ho
  | hid _=>cases ho
theorem Yy {k:Int} {t:Tok}:(intKind cx.prog cx.w).is k (.int k t)=true:=by simp [intKind,Value.isInt]
theorem Pg {k:Key} (x:VR cx ρ s.heap a v) (h:Ef a=some k):∃ b,v=.ref b /\ (cellKind cx).is s.heap [k.1,k.2] b /\ ¬ A1 ρ b:=by
  rw [Ado h] at x
  cases x with
  | @tup b vs n ms e no z r =>
    refine Ah fun G kG=>?_
    refine ex2 r.two_inv fun u w zz=>Av zz fun ev r1 r2=>?_
    obtain ⟨t1,e1⟩:=r1.int_inv
    obtain ⟨t2,e2⟩:=r2.int_inv
    refine kG ?_
    exact ⟨b,rfl,⟨_,vs.toArray,n,e,rfl,rfl,ev▸e1▸e2▸.cons Yy (.cons Yy .nil)⟩,no⟩
theorem DRs.atKey {es:List (Key × Val)} {xs:List (List Int × Addr × Value)} (r:DRs cx ρ s.heap es xs) (k:Key) :
    match D5 es k,atKey xs [k.1,k.2] with
    | some m,some p=>VR cx ρ s.heap m p.2
    | none,none=>True
    | _,_=>False:=by
  induction r with
  | nil=>simp [D5,PySem.atKey]
  | @cons k' v' b x es xs a n _ ih =>
    by_cases q:k'=k
    · refine q▸?_
      simp [D5,PySem.atKey,a]
    · have q':¬ ([k'.1,k'.2]=[k.1,k.2]):=fun e=>q (by
        simp only [List.cons.injEq,and_true] at e
        exact Prod.ext e.1 e.2)
      have q2:(k == k')=false:=by simpa using fun e:k=k'=>q e.symm
      have e1:D5 ((k',v') :: es) k=D5 es k:=by simp [D5,List.lookup_cons,q2]
      have e2:PySem.atKey (([k'.1,k'.2],b,x) :: xs) [k.1,k.2]=PySem.atKey xs [k.1,k.2]:=by
        unfold PySem.atKey
        rw [List.find?_cons]
        simp only [decide_eq_false q']
      rw [e1,e2]
      exact ih
theorem DRs.isSome {es:List (Key × Val)} {xs:List (List Int × Addr × Value)} (r:DRs cx ρ s.heap es xs) (k:Key):(PySem.atKey xs [k.1,k.2]).isSome=(D5 es k).isSome:=by
  have:=r.atKey k
  cases h1:D5 es k <;> cases h2:PySem.atKey xs [k.1,k.2] <;> simp_all
theorem Kt (R:Rel cx H ρ s) {l:Nat} {p:Addr × Addr} (hρ:ρ[l]?=some p):(p.1 == sysModules)=false:=by
  obtain ⟨o,e⟩:=R.sys
  have:=(R.new p (List.mem_of_getElem? hρ)).1
  simpa using fun w:p.1=sysModules=>by rw [w,e] at this;exact nomatch this
theorem Yz (R:Rel cx H ρ s) (x:VR cx ρ s.heap a v) (y:VR cx ρ s.heap b w) {r:Bool} (e:inV a b H=some r) {C:Value -> Value -> Bool -> Prop}
    (k1:∀ {p d ds as bs},Reads s.heap (.ref p) (.list ds) bs -> Reads s.heap v d as -> PyData.canLayAll0 ds=true -> d.canLay0=true -> min (PyData.depthAll ds) d.depth <= 6 -> C v (.ref p) (ds.any fun y=>PyData.eqv y d))
    (k2:∀ {p:Addr} {bb:Addr} {kk:Key} {xs},(cellKind cx).is s.heap [kk.1,kk.2] bb -> (p == sysModules)=false -> s.heap.DictOfH (cellKind cx) p xs -> C (.ref bb) (.ref p) (PySem.atKey xs [kk.1,kk.2]).isSome):C v w r:=by
  cases y with
  | @loc l p hp =>
    refine Afx (C:=C v (.ref p.1)) e (fun ys hl e=>?_) fun es k hl ek=>?_
    · refine ex2 (R.listAt hl hp) fun vs n zz=>Cg zz fun _ g rr _=>?_
      refine Adp (C:=C v (.ref p.1)) e fun d ds e1 e2=>?_
      refine Ah fun G kG=>?_
      refine Av (C6 R Gp x e1) fun zn0 g2 g3=>?_;obtain ⟨as,g1⟩:=zn0
      refine Av (Id (n:=Gp) (fun x h=>C6 R Gp x h) rr e2) fun zn0 f2 f3=>?_;obtain ⟨bs,f1⟩:=zn0
      refine kG ?_
      exact k1 (.list g rfl rfl (by simpa using f1)) g1 f2 g2 (Nat.le_trans (Nat.min_le_right _ _) g3)
    · refine ex1 (R.dictAt hl hp) fun xs zz=>Cg zz fun _ D rr _=>?_
      refine ex1 (Pg x ek) fun bb zz=>Av zz fun hr0 hk _=>?_;refine Eq.symm hr0▸?_
      exact rr.isSome k▸k2 hk (Kt R hp) D
  | _=>exact Ae e
theorem Age (R:Rel cx H ρ s) (x:VR cx ρ s.heap a v) (y:VR cx ρ s.heap b w) {r:Bool} (e:inV a b H=some r) (hu:A.units+100 < cLine) {Q:Value -> Shared -> Prop} {E:Value -> Shared -> Prop} (k:∀ tk,Q (.bool r) { s with toks:=tk }) :
    wpAny (model cx.prog cx.w) A (compareOp .In v w) Q E s :=
  Yz (C:=fun v w r=>(∀ tk,Q (.bool r) { s with toks:=tk }) -> wpAny (model cx.prog cx.w) A (compareOp .In v w) Q E s) R x y e
    (fun f g f2 g2 z k=>SeqAt.in_list_reads f g f2 g2 (Nat.lt_of_le_of_lt (Nat.add_le_add_left z _) (by exact o6 hu)) (k s.toks))
    (fun hk q D k=>wpAny_in_heap (knd:=cellKind cx) (tupleKind_room_in1 (by exact o7 hu)) hk q D (k _)) k
theorem Wh (R:Rel cx H ρ s) (x:VR cx ρ s.heap a v) (y:VR cx ρ s.heap b w) {r:Bool} (e:inV a b H=some r) (hu:A.units+100 < cLine) {Q:Value -> Shared -> Prop} {E:Value -> Shared -> Prop} (k:∀ tk,Q (.bool (!r)) { s with toks:=tk }) :
    wpAny (model cx.prog cx.w) A (compareOp .NotIn v w) Q E s :=
  Yz (C:=fun v w r=>(∀ tk,Q (.bool (!r)) { s with toks:=tk }) -> wpAny (model cx.prog cx.w) A (compareOp .NotIn v w) Q E s) R x y e
    (fun f g f2 g2 z k=>SeqAt.notIn_list_reads f g f2 g2 (Nat.lt_of_le_of_lt (Nat.add_le_add_left z _) (by exact o6 hu)) (k s.toks))
    (fun hk q D k=>PyProof.Rows.wpAny_notIn_heap (knd:=cellKind cx) (tupleKind_room_in1 (by exact o7 hu)) hk q D (k _)) k
theorem M4 {f g:Val -> Option PyData} (h:∀ m d,f m=some d -> g m=some d):∀ {xs:List Val} {ds:List PyData},Jo f xs=some ds -> Jo g xs=some ds
  | [],ds,e=>e
  | x :: xs,ds,e=>by
    refine R9 (C:=fun ds=>Jo g (x :: xs)=some ds) e fun d ds' e1 e2=>?_
    show (match g x,Jo g xs with
      | some d,some ds=>some (d :: ds)
      | _,_=>none)=_
    rw [h _ _ e1,M4 h e2]
theorem Lu:∀ (n:Nat) (m:Val) (d:PyData),A6 [] n m=some d -> A6 H n m=some d
  | 0,m,d,e=>by cases m <;> exact e
  | n+1,m,d,e=>by
    cases m with
    | tup vs =>
      refine ex1 (Option.map_eq_some_iff.mp e) fun ds zz=>Ad zz fun e1 e2=>?_
      exact Option.map_eq_some_iff.mpr ⟨ds,M4 (Lu n) e1,e2⟩
    | loc l=>exact Ae e
    | _=>exact e
theorem Y0 {r:Bool} (h:Gq [] a b=some r):Gq H a b=some r:=by
  refine V9 (C:=fun r=>Gq H a b=some r) h fun d1 d2 e1 e2=>?_
  delta Gq
  rw [Lu _ _ _ e1,Lu _ _ _ e2]
theorem VR.tup_inv {h:Heap} {ms:List Val} (x:VR cx ρ h (.tup ms) v):∃ p vs n,v=.ref p /\ h.get? p=some (Wc vs n) /\ VRs cx ρ h ms vs:=by cases x;exact ⟨_,_,_,rfl,by assumption,by assumption⟩
theorem M5 (R:Rel cx H ρ s) (x:VR cx ρ s.heap a v) (y:VR cx ρ s.heap b w) {r:Bool} (e:Gq H a b=some r) (hu:A.units+10 < cLine) {Q:Bool -> Shared -> Prop} {E:Value -> Shared -> Prop} (k:Q r s) :
    wpAny (model cx.prog cx.w) A (eqBool v w) Q E s:=by
  revert k
  refine V9 (C:=fun r=>Q r s -> _) e fun d1 d2 e1 e2 k=>?_
  refine Ah fun G kG=>?_
  refine Av (C6 R Gp x e1) fun zn0 g2 g3=>?_;obtain ⟨as,g1⟩:=zn0
  refine Av (C6 R Gp y e2) fun zn0 f2 f3=>?_;obtain ⟨bs,f1⟩:=zn0
  refine kG ?_
  exact SeqAt.eqBoolOverData _ _ _ _ _ _ _ _ _ _ _ _ g1 f1 g2 f2 (Nat.lt_of_le_of_lt (Nat.add_le_add_left (Nat.le_trans (Nat.min_le_left _ _) g3) _) (show A.units+6 < cLine by exact o8 hu)) k
theorem Y1 (R:Rel cx H ρ s):∀ (n:Nat) (A:Around) (a b:Val) (v w:Value) (r:Bool) (Q:Value -> Shared -> Prop) (E:Value -> Shared -> Prop),VR cx ρ s.heap a v -> VR cx ρ s.heap b w -> N3 n a b=some r -> A.units+20+n < cLine -> Q (.bool r) s -> wpAny (model cx.prog cx.w) A (richCompare .Lt v w) Q E s
  | 0,_,_,_,_,_,_,_,_,_,_,h,_,_=>by exact Ae h
  | n+1,A,a,b,v,w,r,Q,E,x,y,h,hu,k=>by
    refine Afw (C:=fun a b r=>VR cx ρ s.heap a v -> VR cx ρ s.heap b w -> Q (.bool r) s -> _) h (fun i j x y k=>?_) (fun ms ks h x y k=>?_) x y k
    · obtain ⟨t,hr0⟩:=x.int_inv;refine Eq.symm hr0▸?_
      obtain ⟨u,hr1⟩:=y.int_inv;refine Eq.symm hr1▸?_
      exact PyProof.Rows.lt_int k
    · obtain ⟨p,vs,n1,hr2,g1,r1⟩:=x.tup_inv;refine Eq.symm hr2▸?_
      obtain ⟨q,ws,n2,hr3,g2,r2⟩:=y.tup_inv;refine Eq.symm hr3▸?_
      have T1:s.TypeIs (.ref p) "tuple":=⟨_,g1,rfl⟩
      have T2:s.TypeIs (.ref q) "tuple":=⟨_,g2,rfl⟩
      refine wpAny_richCompare_same_room (T:="tuple") T1 T2 F.slot_tuple_lt (wpAny_call_entry F.slot_tuple_lt T1 F.entry_tuple_lt ?_ (F.args_tuple_lt_2 _ _)) (by exact o9 hu)
      have fin:∀ (z:Bool),z=r -> (∃ v,(Fin.done (.ret (.bool z)):Fin)=.done (.ret v) /\ v≠.notImplemented /\ Q v s):=fun z e=>⟨.bool z,rfl,by simp,by rw [e];exact k⟩
      show wpAny _ _ (isInstance (.ref q) (.type "tuple")>>=_) _ _ s
      refine wpAny_bind (wpAny_isInstance T2 isSubtype_tuple_tuple ?_)
      simp only [Bool.not_true,Bool.false_eq_true,if_false]
      refine wpAny_bind (wpAny_tupleItemsOf g1 rfl ?_)
      refine wpAny_bind (wpAny_tupleItemsOf g2 rfl ?_)
      refine wpAny_bind ?_
      refine wpAny_forIn_list _
        (fun rest z s'=>z.1=none /\ s'=s /\ ∃ ms' ks' vs' ws',rest=List.zip vs' ws' /\ VRs cx ρ s.heap ms' vs' /\ VRs cx ρ s.heap ks' ws' /\ lts (Gq []) (N3 n) ms' ks'=some r /\ decide (vs'.length < ws'.length)=decide (vs.toArray.size < ws.toArray.size))
        _ ?_ ?_ _ _ ⟨rfl,rfl,ms,ks,vs,ws,rfl,r1,r2,h,by simp⟩
      · intro ce rest z s' zz
        obtain ⟨hz,hs',ms',ks',vs',ws',hzip,q1,q2,hl,hlen⟩:=zz
        obtain ⟨c,e⟩:=ce
        rw [hs']
        clear hs' s'
        cases q1 with
        | nil=>simp at hzip
        | cons a1 q1 =>
          cases q2 with
          | nil=>simp at hzip
          | cons a2 q2 =>
            simp only [List.zip_cons_cons,List.cons.injEq,Prod.mk.injEq] at hzip
            obtain ⟨⟨rfl,rfl⟩,rfl⟩:=hzip
            rcases Wa hl with ⟨he,hl'⟩ | ⟨he,hl'⟩
            · refine wpAny_bind (M5 R a1 a2 (Y0 he) (by simp only [Around.in1_units];exact o10 hu) ?_)
              simp only [Bool.not_true,Bool.false_eq_true,if_false]
              exact wpAny_pure ⟨rfl,rfl,_,_,_,_,rfl,q1,q2,hl',by simpa using hlen⟩
            · refine wpAny_bind (M5 R a1 a2 (Y0 he) (by simp only [Around.in1_units];exact o10 hu) ?_)
              simp only [Bool.not_false,if_true]
              refine wpAny_bind (wpAny_rule ?_)
              refine wpAny_bind (Y1 R n A.in1 _ _ _ _ r _ _ a1 a2 hl' (by simp only [Around.in1_units];exact o11 hu) ?_)
              exact wpAny_bind (wpAny_pure (wpAny_pure (wpAny_pure (fin r rfl))))
      · intro z s' zz
        obtain ⟨hz,hs',ms',ks',vs',ws',hzip,q1,q2,hl,hlen⟩:=zz
        obtain ⟨z1,z2⟩:=z
        rw [hs']
        clear hs' s'
        simp only at hz
        subst hz
        refine wpAny_pure ?_
        refine fin _ ?_
        rw [<- hlen]
        cases q1 with
        | nil =>
          cases q2 with
          | nil=>exact Option.some.inj hl
          | cons a2 q2=>exact Option.some.inj hl
        | cons a1 q1 =>
          cases q2 with
          | nil=>exact Option.some.inj hl
          | cons a2 q2=>simp at hzip
theorem Ad5 {p:Int -> Int -> Bool} {r:Bool} {C:Value -> Value -> Bool -> Prop} {h:Heap} (e:Afl p a b=some r) (x1:VR cx ρ h a v) (x2:VR cx ρ h b w) (k:∀ x y t u,C (.int x t) (.int y u) (p x y)):C v w r:=by
  refine Adq (C:=fun a b r=>VR cx ρ h a v -> VR cx ρ h b w -> C v w r) e (fun x y x1 x2=>?_) x1 x2
  obtain ⟨t,e1⟩:=x1.int_inv
  obtain ⟨u,e2⟩:=x2.int_inv
  exact e1▸e2▸k _ _ _ _
theorem Ad6 {r:Bool} {C:Value -> Prop} (e:isV a b=some r) (x1:VR cx ρ s.heap a v) (x2:VR cx ρ s.heap b w) (k0:r=(v == .none) -> C .none):C w:=by
  cases b with
  | none=>cases x2;exact k0 (M3 x1 e)
  | _=>exact Ae e
theorem Lw (hu:A.units+100 < cLine) {op:COp} (h1:∀ ρ h,P.P ρ h -> VR cx ρ h a v) (h2:∀ ρ h,P.P ρ h -> VR cx ρ h b w) :
    Sim cx A P (compareOp (I8 op) v w) ((M.look (Dy op a b)).bnd fun r=>M.ret (Val.bool r)) (Amb.vr cx):=by
  intro H ρ s R p
  have x1:=h1 _ _ p
  have x2:=h2 _ _ p
  cases e:Dy op a b H with
  | none=>rw [Df (show M.look (Dy op a b) H=.bad by unfold M.look;rw [e])];trivial
  | some r =>
    rw [D4 (show M.look (Dy op a b) H=.ok r H by unfold M.look;rw [e])]
    refine At R fun Q E k=>?_
    have k':∀ tk,Q (.bool r) { s with toks:=tk }:=fun tk=>k _ tk (.bool r)
    cases op with
    | eq=>exact Agc R x1 x2 e hu (k' s.toks)
    | ne =>
      refine ex1 (Ju e) fun r' zz=>Ad zz fun e' zr2=>?_;subst zr2
      exact Agd R x1 x2 e' hu (k' s.toks)
    | lt=>exact Y1 R Gp A a b v w r _ _ x1 x2 e (by show A.units+20+6 < cLine;exact o12 hu) (k' s.toks)
    | le=>exact Ad5 (C:=fun v w r=>Q (.bool r) s -> wpAny (model cx.prog cx.w) A (compareOp .LtE v w) Q E s) e x1 x2 (fun _ _ _ _=>PyProof.Rows.le_int) (k' s.toks)
    | gt=>exact Ad5 (C:=fun v w r=>Q (.bool r) s -> wpAny (model cx.prog cx.w) A (compareOp .Gt v w) Q E s) e x1 x2 (fun _ _ _ _=>PyProof.Rows.gt_int) (k' s.toks)
    | is=>exact Ad6 (C:=fun w=>wpAny (model cx.prog cx.w) A (compareOp .Is v w) Q E s) e x1 x2 (fun h=>is_none (h▸k' s.toks))
    | isNot =>
      refine ex1 (Ju (show Yr true (isV a b)=some r from e)) fun r' zz=>Ad zz fun e' er=>?_
      exact Ad6 (C:=fun w=>wpAny (model cx.prog cx.w) A (compareOp .IsNot v w) Q E s) e' x1 x2 (fun h=>isNot_none (h▸er▸k' s.toks))
    | isin=>exact Age R x1 x2 e hu k'
    | notin =>
      refine ex1 (Ju (show Yr true (inV a b H)=some r from e)) fun r' zz=>Ad zz fun e' zr2=>?_;subst zr2
      exact Wh R x1 x2 e' hu k'
end
end Mine.Internal
namespace Mine.Internal
open PySem PyProof.Rows
theorem Eh (slice:Expr) (o i:Value):∃ ops,subscripted slice false o i=operate ops (getItem o i):=by
  have h:∃ ops,operate [o,i] (getItem o i)=operate ops (getItem o i):=⟨_,rfl⟩
  cases slice with
  | Slice a b c d =>
    cases c with
    | none=>exact ⟨_,rfl⟩
    | some _=>exact h
  | _=>exact h
section
variable {cx:Cx} {A:Around} {P:Amb} {a b:Val} {v w:Value} {H:Hp} {ρ:Rho} {s:Shared}
set_option tactic.hygienic true in
theorem N8 {l:Addr} {vs:List Value} {n:Nat} {k:Int} {u:Tok} {p:Nat} {x:Value} {Q:Value -> Shared -> Prop} {E:Value -> Shared -> Prop} (g:s.heap.get? l=some (B1 vs n)) (z:vs.length <= sizeLine) (hp:Cp k vs.length=some p) (hx:vs[p]?=some x) (h:Q x s) :
    wpAny (model cx.prog cx.w) A (getItem (.ref l) (.int k u)) Q E s:=by
  have L:s.heap.IsList l vs.toArray:=⟨_,g,rfl,n,rfl⟩
  rw [sizeLine_eq] at z
  unfold Cp at hp
  split at hp
  · split at hp
    · cases hp
      rename_i h0 h1
      exact wpAny_getItem_list L h0 (by omega) (by simpa using hx) h
    · exact Ae hp
  · split at hp
    · cases hp
      rename_i h0 h1
      exact wpAny_getItem_list_neg L (by exact o13 h0) (by simpa using h1) (by omega) (by simpa using hx) h
    · exact Ae hp
theorem Ph {value slice:Expr} {l:Addr} {vs:List Value} {xs:List Val} {n:Nat} {i:Int} {u:Tok} {r:Val} {Q E:Value -> Shared -> Prop} (g:s.heap.get? l=some (B1 vs n)) (rr:VRs cx ρ s.heap xs vs) (z:xs.length <= sizeLine)
    (e:((Cp i xs.length).bind fun p=>xs[p]?)=some r) (k:∀ x tk,VR cx ρ s.heap r x -> Q x { s with toks:=tk }):wpAny (model cx.prog cx.w) A (subscriptTail value slice (.ref l) (.int i u)) Q E s:=by
  refine Ah fun G kG=>?_
  obtain ⟨ops,hops⟩:=Eh slice (.ref l) (.int i u)
  refine ex1 (Option.bind_eq_some_iff.mp e) fun pl zz=>Ad zz fun e1 e2=>?_
  refine ex1 (rr.get e2) fun x zz=>Ad zz fun ex vx=>?_
  refine kG ?_
  rw [rr.length] at z e1
  exact tail_any (T:="list") (Heap.IsList.typeIs (s:=s) ⟨_,g,rfl,n,rfl⟩) PySem.slot_list_getitem.lookup (N8 g z e1 ex (k _ s.toks vx)) hops
theorem Wi {value slice:Expr} {q:Addr × Addr} {l:Nat} {es:List (Key × Val)} {r:Val} {Q E:Value -> Shared -> Prop} (hu:A.units+100 < cLine) (R:Rel cx H ρ s) (hl:H[l]?=some (.dict es)) (hq:ρ[l]?=some q) (x2:VR cx ρ s.heap b w) (e:((Ef b).bind (D5 es))=some r)
    (k:∀ x tk,VR cx ρ s.heap r x -> Q x { s with toks:=tk }):wpAny (model cx.prog cx.w) A (subscriptTail value slice (.ref q.1) w) Q E s:=by
  refine Ah fun G kG=>?_
  obtain ⟨ops,hops⟩:=Eh slice (.ref q.1) w
  refine ex1 (Option.bind_eq_some_iff.mp e) fun kk zz=>Ad zz fun e1 e2=>?_
  refine ex1 (R.dictAt hl hq) fun xs zz=>Cg zz fun _ D rr _=>?_
  refine ex1 (Pg x2 e1) fun bb zz=>Av zz fun zr1 hk _=>?_;subst zr1
  refine kG ?_
  have at':=rr.atKey kk
  rw [e2] at at'
  cases hp:atKey xs [kk.1,kk.2] with
  | none=>rw [hp] at at';exact at'.elim
  | some pr =>
    rw [hp] at at'
    exact tail_any (T:="dict") D.typeIs PySem.slot_dict_getitem.lookup (wpAny_getItem_heap (knd:=cellKind cx) (tupleKind_room_in1 (by clear at' rr;exact o7 hu)) hk D hp (k _ _ at')) hops
theorem Aap {value slice:Expr} {t:Addr} {vs:List Value} {ms:List Val} {n:Nat} {i:Int} {u:Tok} {r:Val} {Q E:Value -> Shared -> Prop} (g:s.heap.get? t=some (Wc vs n)) (rr:VRs cx ρ s.heap ms vs) (z:ms.length <= sizeLine)
    (h0:0 <= i) (e:ms[i.toNat]?=some r) (k:∀ x tk,VR cx ρ s.heap r x -> Q x { s with toks:=tk }):wpAny (model cx.prog cx.w) A (subscriptTail value slice (.ref t) (.int i u)) Q E s:=by
  refine Ah fun G kG=>?_
  obtain ⟨ops,hops⟩:=Eh slice (.ref t) (.int i u)
  refine ex1 (rr.get e) fun x zz=>Ad zz fun ex vx=>?_
  refine kG ?_
  have lt:=(List.getElem?_eq_some_iff.mp ex).1
  rw [rr.length,sizeLine_eq] at z
  refine tail_any (T:="tuple") (Heap.IsTuple.typeIs (s:=s) ⟨_,g,rfl,n,rfl⟩) slot_tuple_getitem.lookup ?_ hops
  exact getItem_tuple (items:=vs.toArray) ⟨_,g,rfl,n,rfl⟩ (by omega) (by omega) (seqIndex_of h0 (by simp only [List.size_toArray];exact o14 h0 lt)) (by simpa using ex) (k _ s.toks vx)
theorem VR.tup_inv' {ms:List Val} {h:Heap} (x:VR cx ρ h (.tup ms) v):∃ p vs n,v=.ref p /\ h.get? p=some (Wc vs n) /\ VRs cx ρ h ms vs /\ ms.length <= sizeLine:=by cases x;exact ⟨_,_,_,rfl,by assumption,by assumption,by assumption⟩
theorem VR.script_inv {ns:List Int} {h:Heap} (x:VR cx ρ h (.script ns) v):∃ p vs n,v=.ref p /\ cx.h₀.get? p=some (B1 vs n) /\ VRs cx ρ h (ns.map .int) vs /\ ns.length <= sizeLine:=by cases x;exact ⟨_,_,_,rfl,by assumption,by assumption,by assumption⟩
theorem N9 {ns:List Int} {i:Int} {r:Val} (e:((Cp i ns.length).bind fun p=>(ns[p]?).map Val.int)=some r):((Cp i (ns.map Val.int).length).bind fun p=>(ns.map Val.int)[p]?)=some r:=by
  rw [List.length_map,<- e]
  congr 1
  funext p
  rw [List.getElem?_map]
set_option tactic.hygienic true in
theorem Oa {value slice:Expr} (hu:A.units+100 < cLine) (h1:∀ ρ h,P.P ρ h -> VR cx ρ h a v) (h2:∀ ρ h,P.P ρ h -> VR cx ρ h b w):Sim cx A P (subscriptTail value slice v w) (C5 a b) (Amb.vr cx):=by
  refine Sim.look fun H ρ s r R p e Q E k=>?_
  have x1:=h1 _ _ p
  have x2:=h2 _ _ p
  clear h1 h2 p
  cases a with
  | loc l =>
    refine ex1 x1.loc_inv fun q zz=>Ad zz fun hq hr0=>?_;refine Eq.symm hr0▸?_
    cases hl:H[l]? with
    | none=>dsimp only at e;rw [hl] at e;exact Ae e
    | some o =>
      dsimp only at e
      rw [hl] at e
      cases o with
      | list xs =>
        cases b with
        | int i =>
          obtain ⟨u,hr1⟩:=x2.int_inv;refine Eq.symm hr1▸?_
          refine ex2 (R.listAt hl hq) fun vs n zz=>Cg zz fun _ g rr z=>?_
          exact Ph g rr z e k
        | _=>exact Ae e
      | dict es=>exact Wi hu R hl hq x2 e k
      | _=>exact Ae e
  | tup ms =>
    cases b with
    | int i =>
      obtain ⟨u,rfl⟩:=x2.int_inv
      refine ex3 x1.tup_inv' fun t vs n zz=>Cg zz fun zr3 g rr z=>?_;subst zr3
      have e:(if 0 <= i then ms[i.toNat]? else none)=some r:=e
      split at e
      · rename_i h0;exact Aap g rr z h0 e k
      · exact Ae e
    | _=>exact Ae e
  | script ns =>
    cases b with
    | int i =>
      obtain ⟨u,rfl⟩:=x2.int_inv
      refine ex3 x1.script_inv fun t vs n zz=>Cg zz fun zr3 g rr z=>?_;subst zr3
      exact Ph (R.base _ _ g) rr (by rw [List.length_map];exact z) (N9 e) k
    | _=>exact Ae e
  | _=>exact Ae e
end
end Mine.Internal
namespace Mine.Internal
open PySem
section
variable {cx:Cx} {A:Around} {P:Amb} {a b:Val} {v w:Value} {H:Hp} {ρ:Rho} {s:Shared}
noncomputable def Agf (s:Shared) (v:Value):Kd -> Prop
  | .none=>v=.none
  | .bool=>∃ b,v=.bool b
  | .int=>∃ i t,v=.int i t
  | .str=>∃ y t,v=.str y t
  | .tuple=>∃ p o,v=.ref p /\ s.heap.get? p=some o /\ o.cls=.type "tuple"
  | .list=>∃ p o,v=.ref p /\ s.heap.get? p=some o /\ o.cls=.type "list"
  | .dict=>∃ p o,v=.ref p /\ s.heap.get? p=some o /\ o.cls=.type "dict"
theorem Agg (R:Rel cx H ρ s) (x:VR cx ρ s.heap a v) {k:Kd} (e:Pc H a=some k):Agf s v k:=by
  cases x with
  | none=>cases e;rfl
  | bool b=>cases e;exact ⟨_,rfl⟩
  | int i t=>cases e;exact ⟨_,_,rfl⟩
  | str y t z=>cases e;exact ⟨_,_,rfl⟩
  | tup g _ _ _=>cases e;exact ⟨_,_,rfl,g,rfl⟩
  | script g _ _=>cases e;exact ⟨_,_,rfl,R.base _ _ g,rfl⟩
  | @loc l p hp =>
    refine Afy (C:=Agf s (.ref p.1)) e (fun xs hl=>?_) fun es hl=>?_
    · refine Ah fun G kG=>?_
      refine ex2 (R.listAt hl hp) fun vs n zz=>Av zz fun _ g _=>?_
      refine kG ?_
      exact ⟨_,_,rfl,g,rfl⟩
    · refine Ah fun G kG=>?_
      refine ex1 (R.dictAt hl hp) fun xs zz=>Av zz fun _ D _=>?_
      refine ex3 D fun o _ _ zz=>Av zz fun g ex _=>?_
      refine kG ?_
      exact ⟨_,_,rfl,g,ex.1⟩
  | rng=>exact Ae e
  | exc=>exact Ae e
noncomputable def Wj:Ty -> Value
  | .int=>.type "int"
  | .bool=>.type "bool"
  | .str=>.type "str"
  | .tuple=>.type "tuple"
  | .list=>.type "list"
  | .cls _=>.none
theorem Ad7 (R:Rel cx H ρ s) (x:VR cx ρ s.heap a v) {k:Kd} (e:Pc H a=some k) {t:Ty} (ht:∀ c,t≠.cls c) {Q:Value -> Shared -> Prop} {E:Value -> Shared -> Prop} (q:∀ tk,Q (.bool (Ys t k)) { s with toks:=tk }) :
    wpAny (model cx.prog cx.w) A (call (.builtin "isinstance") [v,Wj t]) Q E s:=by
  have d:=Agg R x e
  cases k <;> cases t
  case none.cls | bool.cls | int.cls | str.cls | tuple.cls | list.cls | dict.cls=>exact absurd rfl (ht _)
  all_goals dsimp only [Agf] at d
  case none.int=>subst d;exact IsiPair.NoneType_int (q _)
  case none.bool=>subst d;exact IsiPair.NoneType_bool (q _)
  case none.str=>subst d;exact IsiPair.NoneType_str (q _)
  case none.tuple=>subst d;exact IsiPair.NoneType_tuple (q _)
  case none.list=>subst d;exact IsiPair.NoneType_list (q _)
  case bool.int=>obtain ⟨b,rfl⟩:=d;exact IsiPair.bool_int (q _)
  case bool.bool=>obtain ⟨b,rfl⟩:=d;exact IsiPair.bool_bool (q _)
  case bool.str=>obtain ⟨b,rfl⟩:=d;exact IsiPair.bool_str (q _)
  case bool.tuple=>obtain ⟨b,rfl⟩:=d;exact IsiPair.bool_tuple (q _)
  case bool.list=>obtain ⟨b,rfl⟩:=d;exact IsiPair.bool_list (q _)
  case int.int=>refine ex2 d fun i u zr2=>?_;subst zr2;exact IsiPair.int_int (q _)
  case int.bool=>refine ex2 d fun i u zr2=>?_;subst zr2;exact IsiPair.int_bool (q _)
  case int.str=>refine ex2 d fun i u zr2=>?_;subst zr2;exact IsiPair.int_str (q _)
  case int.tuple=>refine ex2 d fun i u zr2=>?_;subst zr2;exact IsiPair.int_tuple (q _)
  case int.list=>refine ex2 d fun i u zr2=>?_;subst zr2;exact IsiPair.int_list (q _)
  case str.int=>refine ex2 d fun i u zr2=>?_;subst zr2;exact IsiPair.str_int (q _)
  case str.bool=>refine ex2 d fun i u zr2=>?_;subst zr2;exact IsiPair.str_bool (q _)
  case str.str=>refine ex2 d fun i u zr2=>?_;subst zr2;exact IsiPair.str_str (q _)
  case str.tuple=>refine ex2 d fun i u zr2=>?_;subst zr2;exact IsiPair.str_tuple (q _)
  case str.list=>refine ex2 d fun i u zr2=>?_;subst zr2;exact IsiPair.str_list (q _)
  case tuple.int=>refine ex2 d fun p o zz=>Av zz fun zr2 g c=>?_;subst zr2;exact IsiPair.tuple_int g c (q _)
  case tuple.bool=>refine ex2 d fun p o zz=>Av zz fun zr2 g c=>?_;subst zr2;exact IsiPair.tuple_bool g c (q _)
  case tuple.str=>refine ex2 d fun p o zz=>Av zz fun zr2 g c=>?_;subst zr2;exact IsiPair.tuple_str g c (q _)
  case tuple.tuple=>refine ex2 d fun p o zz=>Av zz fun zr2 g c=>?_;subst zr2;exact IsiPair.tuple_tuple g c (q _)
  case tuple.list=>refine ex2 d fun p o zz=>Av zz fun zr2 g c=>?_;subst zr2;exact IsiPair.tuple_list g c (q _)
  case list.int=>refine ex2 d fun p o zz=>Av zz fun zr2 g c=>?_;subst zr2;exact IsiPair.list_int g c (q _)
  case list.bool=>refine ex2 d fun p o zz=>Av zz fun zr2 g c=>?_;subst zr2;exact IsiPair.list_bool g c (q _)
  case list.str=>refine ex2 d fun p o zz=>Av zz fun zr2 g c=>?_;subst zr2;exact IsiPair.list_str g c (q _)
  case list.tuple=>refine ex2 d fun p o zz=>Av zz fun zr2 g c=>?_;subst zr2;exact IsiPair.list_tuple g c (q _)
  case list.list=>refine ex2 d fun p o zz=>Av zz fun zr2 g c=>?_;subst zr2;exact IsiPair.list_list g c (q _)
  case dict.int=>refine ex2 d fun p o zz=>Av zz fun zr2 g c=>?_;subst zr2;exact IsiPair.dict_int g c (q _)
  case dict.bool=>refine ex2 d fun p o zz=>Av zz fun zr2 g c=>?_;subst zr2;exact IsiPair.dict_bool g c (q _)
  case dict.str=>refine ex2 d fun p o zz=>Av zz fun zr2 g c=>?_;subst zr2;exact IsiPair.dict_str g c (q _)
  case dict.tuple=>refine ex2 d fun p o zz=>Av zz fun zr2 g c=>?_;subst zr2;exact IsiPair.dict_tuple g c (q _)
  case dict.list=>refine ex2 d fun p o zz=>Av zz fun zr2 g c=>?_;subst zr2;exact IsiPair.dict_list g c (q _)
noncomputable def Lx:BF -> Value
  | .len=>.builtin "len"
  | .range=>.type "range"
  | .list=>.type "list"
  | .max2=>.builtin "max"
  | .sortedSet=>.none
theorem Wk (R:Rel cx H ρ s) (x:VR cx ρ s.heap a v) {xs:List Val} (e:Cc a H=some xs) :
    (∃ p vs n,v=.ref p /\ s.heap.get? p=some (B1 vs n) /\ VRs cx ρ s.heap xs vs /\ xs.length <= sizeLine) \/ (∃ p vs n,v=.ref p /\ s.heap.get? p=some (Wc vs n) /\ VRs cx ρ s.heap xs vs /\ xs.length <= sizeLine):=by
  cases x with
  | @tup p vs n ms g no z r=>cases e;exact .inr ⟨_,_,_,rfl,g,r,z⟩
  | @script p vs n ns g z r=>cases e;exact .inl ⟨_,_,_,rfl,R.base _ _ g,r,by rw [List.length_map];exact z⟩
  | @loc l p hp =>
    refine Ah fun G kG=>?_
    refine ex2 (R.listAt (Jv e) hp) fun vs n zz=>Cg zz fun _ g r z=>?_
    refine kG ?_
    exact .inl ⟨_,_,_,rfl,g,r,z⟩
  | _=>exact Ae e
theorem Aaq (h1:∀ ρ h,P.P ρ h -> VR cx ρ h a v):Sim cx A P (call (.builtin "len") [v]) (bfV .len [a]) (Amb.vr cx):=by
  refine Sim.look fun H ρ s r R p e Q E k=>?_
  have x:=h1 _ _ p
  have gen:∀ xs,Cc a H=some xs -> r=.int xs.length -> wpAny (model cx.prog cx.w) A (call (.builtin "len") [v]) Q E s:=by
    intro xs e' hr
    subst hr
    rcases Wk R x e' with ⟨p,vs,n,rfl,g,rr,z⟩ | ⟨p,vs,n,rfl,g,rr,z⟩
    · rw [sizeLine_eq] at z
      rw [rr.length] at z k
      refine PyProof.Rows.len_list (items:=vs.toArray) ⟨_,g,rfl,n,rfl⟩ (by simp only [List.size_toArray];omega) ?_
      simp only [List.size_toArray]
      exact k _ _ (.int _ _)
    · rw [sizeLine_eq] at z
      rw [rr.length] at z k
      refine PyProof.Rows.len_tuple (items:=vs.toArray) ⟨_,g,rfl,n,rfl⟩ (by simp only [List.size_toArray];omega) ?_
      simp only [List.size_toArray]
      exact k _ _ (.int _ _)
  cases x with
  | _ =>
    simp only [Option.map_eq_some_iff] at e
    refine ex1 e fun xs zz=>Ad zz fun e1 zr2=>?_;subst zr2
    exact gen xs e1 rfl
theorem Sk (h1:∀ ρ h,P.P ρ h -> VR cx ρ h a v):Sim cx A P (call (.type "range") [v]) (bfV .range [a]) (Amb.vr cx):=by
  intro H ρ s R p
  have x:=h1 _ _ p
  cases x with
  | int i t =>
    show Bg cx A ((if -1073741824 <= i /\ i <= 1073741824 then M.ret (Val.rng i) else M.bad) H) _ _ ρ s
    by_cases q:-1073741824 <= i /\ i <= 1073741824
    · rw [if_pos q]
      have F:=Full.push ρ s.heap { cls:=.type "range",data:=.fields #[.int 0 s.toks,.int i t,.int 1 (s.toks+1)] }
      exact call_range_1 ⟨ρ,F,R.push _ _,.rng (IsRange.new _ _ _ _ _ _ _) (R.fresh_not (Ar _)) (by omega) (by omega)⟩
    · rw [if_neg q];trivial
  | _=>trivial
theorem Wl (hh:A.handled=none) (h1:∀ ρ h,P.P ρ h -> VR cx ρ h a v) (h2:∀ ρ h,P.P ρ h -> VR cx ρ h b w):Sim cx A P (call (.builtin "max") [v,w]) (bfV .max2 [a,b]) (Amb.vr cx):=by
  intro H ρ s R p
  have x:=h1 _ _ p
  have y:=h2 _ _ p
  cases x with
  | int i t =>
    cases y with
    | int j u =>
      refine max_two_ints hh fun h' tk kp=>?_
      refine ⟨ρ,Full.more kp,R.more kp,?_⟩
      by_cases q:j > i
      · rw [if_pos q,if_pos q];exact .int _ _
      · rw [if_neg q,if_neg q];exact .int _ _
    | _=>trivial
  | _=>trivial
theorem Ob {t:Sem Value} {xs:List Val} (R:Rel cx H ρ s) (z:xs.length <= sizeLine)
    (k:∀ (Q:Value -> Shared -> Prop) (E:Value -> Shared -> Prop),(∀ h' tk vs n,(∀ b o,s.heap.get? b=some o -> h'.get? b=some o) -> h'.get? s.heap.objs.size=some (B1 vs n) -> (∀ ρ',Step ρ s.heap ρ' h' -> VRs cx ρ' h' xs vs) -> Q (.ref s.heap.objs.size) { s with heap:=h',toks:=tk }) -> wpAny (model cx.prog cx.w) A t Q E s) :
    Bg cx A (.ok (.loc H.length) (H++[.list xs])) t (Amb.vr cx) ρ s:=by
  refine k _ _ fun h' tk vs n kp e r=>?_
  obtain ⟨F,R'⟩:=R.alloc (tk:=tk) (o:=.list xs) (p:=(s.heap.objs.size,s.heap.objs.size)) kp ⟨Ar _,Ar _⟩
    (.list (n:=n) e (r _ (Full.alloc kp ⟨Ar _,Ar _⟩).step) z)
  refine ⟨_,F,R',?_⟩
  rw [R.len]
  exact VR.loc (p:=(s.heap.objs.size,s.heap.objs.size)) (by rw [List.getElem?_append_right (Nat.le_refl _)];simp)
theorem Qr (hh:A.handled=none) (h1:∀ ρ h,P.P ρ h -> VR cx ρ h a v):Sim cx A P (call (.type "list") [v]) (bfV .list [a]) (Amb.vr cx):=by
  intro H ρ s R p
  have x:=h1 _ _ p
  cases x with
  | @loc l q hq =>
    show Bg cx A (match Cc (.loc l) H with
      | some xs=>M.alloc (.list xs) H
      | none=>.bad) _ _ ρ s
    cases e:Cc (.loc l) H with
    | some xs =>
      refine Ah fun G kG=>?_
      refine ex2 (R.listAt (Jv e) hq) fun vs n zz=>Cg zz fun _ g r z=>?_
      refine kG ?_
      refine Ob R z fun Q E k=>?_
      refine call_list_seq q.1 (T:="list") (items:=vs.toArray) (.inl rfl) g rfl rfl (fun h' c kp e=>?_) (by simp only [List.size_toArray];rw [<- r.length];exact z)
      exact k h' s.toks vs c kp e fun ρ' st=>r.step st
    | none=>trivial
  | _=>trivial
end
theorem Dz {o:Expr} (h:Cu o=true) (n:Str) (env:Env) (t:Sem Value):attributeBase o n env t=t:=by
  have k:t=t:=rfl
  cases o with
  | Call f args kws pos =>
    cases f with
    | Name id c =>
      cases args with
      | nil =>
        cases kws with
        | nil =>
          have:(id != ("super":Str))=true:=h
          exact if_pos (by simp only [this,Bool.true_or])
        | cons _ _=>exact k
      | cons _ _=>exact k
    | _=>exact k
  | _=>exact k
section
variable {cx:Cx} {A:Around} {P:Amb} {env:Env} {H:Hp} {ρ:Rho} {s:Shared}
noncomputable def Cd (env:Env):List Expr -> Prop
  | []=>True
  | e :: es=>starEach (e :: es) env=(false,eval e env) :: starEach es env /\ Cd env es
theorem Au {env:Env}:∀ {xs:List Expr} (pos:Pos),Cd env xs -> backTo pos (starEach xs env)=xs.map fun e=>(false,eval e env)
  | [],pos,_=>rfl
  | e :: es,pos,h=>by
    rw [h.1]
    have:=Au pos h.2
    unfold backTo at this ⊢
    rw [List.map_cons,this]
    simp
theorem Hk {env:Env} {xs:List Expr} {pos:Pos} (h:Cd env xs) (z:xs.length <= 20) :
    ((backTo pos (starEach xs env)).all (fun x=>!x.1) && (backToKw pos (keywordEach [] env)).all (fun x=>x.1.isSome) && decide (xs.length+([]:List Keyword).length+(if ([]:List Keyword).isEmpty then 0 else 1) < 30))=true:=by
  rw [Au pos h]
  simp only [Bool.and_eq_true,List.all_eq_true,List.mem_map,forall_exists_index,and_imp,decide_eq_true_eq]
  refine ⟨⟨fun x e _ hx=>by rw [<- hx];rfl,?_⟩,?_⟩
  · intro x hx;exact absurd (show x∈[] from hx) List.not_mem_nil
  · simp;exact o15 z
theorem Oc {T id:String} {o:Expr} {name:Str} {apos pos:Pos} {args:List Expr} {m:M Val} {g:Val -> M Val} (hs:Cu o=true) (hp:Cd env args) (hz:args.length <= 20) (hline:(apos.endLine == pos.line)=true)
    (pa:PlainAttrs T) (slot:Slot T name id) (hty:typeOf (.builtin id)=pure (.type "method_descriptor"))
    (x:Bg cx A (m H) (eval o env) (Amb.vr cx) ρ s)
    (y:∀ b a H' ρ' s',m H=.ok b H' -> Full ρ s.heap ρ' s'.heap -> Rel cx H' ρ' s' -> VR cx ρ' s'.heap b a ->
      Gs cx (g b H') (fun Q E s₁=>s₁.TypeIs a T /\ (∀ p,a=.ref p -> ∃ ob,s₁.heap.get? p=some ob /\ ob.dict=none) /\ wpAny (model cx.prog cx.w) A (callWith pos (.builtin id) [a] (args.map fun e=>(false,eval e env)) []) Q E s₁) (Amb.vr cx) ρ' s') :
    Bg cx A (m.bnd g H) (eval (.Call (.Attribute o name apos) args [] pos) env) (Amb.vr cx) ρ s :=
  Bg.bindK (K':=fun Q E s=>wpAny (model cx.prog cx.w) A (eval (.Call (.Attribute o name apos) args [] pos) env) Q E s) x y
    (fun a Q E Q' E' s ⟨h1,h2,h3⟩ k1 k2=>⟨h1,h2,wpAny_mono h3 k1 k2⟩)
    (fun Q E h=>wpAny_Call_method (Dz hs _ _ _) (Hk hp hz) hline pa slot hty (by rw [Au pos hp];exact h))
theorem Gs.andK {β α:Type} {r:Res β} {p:Prop} (hp:p) {K:(α -> Shared -> Prop) -> (Value -> Shared -> Prop) -> Shared -> Prop} {V:β -> α -> Amb} (x:Gs cx r K V ρ s):Gs cx r (fun Q E s'=>p /\ K Q E s') V ρ s:=x.mono fun _ _ h=>⟨hp,h⟩
theorem Sl (R:Rel cx H ρ s) {l:Nat} {p:Addr × Addr} {xs:List Val} (hl:H[l]?=some (.list xs)) (hp:ρ[l]?=some p):s.TypeIs (.ref p.1) "list" /\ ∀ q,Value.ref p.1=.ref q -> ∃ ob,s.heap.get? q=some ob /\ ob.dict=none:=by
  refine Ah fun G kG=>?_
  refine ex2 (R.listAt hl hp) fun vs n zz=>Av zz fun _ g _=>?_
  refine kG ?_
  exact ⟨⟨_,g,rfl⟩,fun q e=>by cases e;exact ⟨_,g,rfl⟩⟩
theorem Jy (vs:List Value) (n:Nat) (f:Array Value -> Array Value):∃ n',Obj.mapSeq f (B1 vs n)=B1 (f vs.toArray).toList n':=by
  unfold B1 Obj.mapSeq
  exact ⟨_,rfl⟩
theorem Hl {l:Nat} {p:Addr × Addr} {b:Val} {v:Value} {ys:List Val} {vs:List Value} {n:Nat} (R:Rel cx H ρ s) (hl:ρ[l]?=some p) (hpp:p.2=p.1) (g:s.heap.get? p.1=some (B1 vs n)) (f:Array Value -> Array Value)
    (r:VRs cx ρ s.heap ys (f vs.toArray).toList) (z:ys.length <= sizeLine) (hv:∀ h,Full ρ s.heap ρ h -> VR cx ρ h b v) :
    ∃ ρ',Full ρ s.heap ρ' (s.heap.update p.1 (Obj.mapSeq f)) /\ Rel cx (H.set l (.list ys)) ρ' { s with heap:=s.heap.update p.1 (Obj.mapSeq f) } /\ (Amb.vr cx b v).P ρ' (s.heap.update p.1 (Obj.mapSeq f)):=by
  obtain ⟨n',e⟩:=Jy vs n f
  have g':(s.heap.update p.1 (Obj.mapSeq f)).get? p.1=some (B1 (f vs.toArray).toList n'):=by
    rw [Heap.get?_update_self _ g (by skip;rfl),e]
  have hs:Heap.SameBut p.1 s.heap (s.heap.update p.1 (Obj.mapSeq f)):=Heap.SameBut.update ..
  have own:A1 ρ p.1:=⟨p,List.mem_of_getElem? hl,.inl rfl⟩
  have F:=Full.own own g' hs
  obtain ⟨F',R'⟩:=R.set (tk:=s.toks) (o:=.list ys) hl (fun b ob eb n1 _=>by rw [hs.2 b n1];exact eb) (SameBut.live hs g') (by
    obtain ⟨p1,p2⟩:=p
    dsimp only at hpp
    refine Eq.symm hpp▸?_
    exact .list g' (r.step F.step) z)
  exact ⟨ρ,F',R',hv _ F'⟩
theorem Ie {vs:List Value} {xs:List Val} (r:VRs cx ρ s.heap xs vs) (z:xs.length <= sizeLine):vs.toArray.size <= sizeLine:=by simp only [List.size_toArray];rw [<- r.length];exact z
theorem Fy {Φ:Funs} {Γ:Env'} {es:MEs} {xs:List Expr} {f:Value} {γ δ:Type} {g:List Val -> M δ} {W:δ -> γ -> Amb} {K:List Value -> (γ -> Shared -> Prop) -> (Value -> Shared -> Prop) -> Shared -> Prop}
    (hn:xs=[] -> es=.nil) (R:Rel cx H ρ s) (x:Bg cx A (evalEs cx.T Φ es Γ H) (spliced (xs.map fun e=>(false,eval e env))) (Amb.vrs cx) ρ s)
    (y:∀ ms vs H' ρ' s',evalEs cx.T Φ es Γ H=.ok ms H' -> Full ρ s.heap ρ' s'.heap -> Rel cx H' ρ' s' -> VRs cx ρ' s'.heap ms vs -> Gs cx (g ms H') (K vs) W ρ' s') (mk:∀ vs,Qo (K vs)) :
    Gs cx ((evalEs cx.T Φ es Γ).bnd g H) (fun Q E s=>wpAny (model cx.prog cx.w) A (evalArgs f true (xs.map fun e=>(false,eval e env)) []) (fun a s₁=>a.kw=[] /\ K a.pos Q E s₁) E s) W ρ s:=by
  cases xs with
  | nil =>
    obtain rfl:=hn rfl
    have e:evalEs cx.T Φ .nil Γ H=.ok [] H:=rfl
    refine (y [] [] H ρ s e (Full.refl _ _) R .nil).mono fun Q E h=>?_
    exact evalArgs_none ⟨rfl,h⟩
  | cons e0 es0 =>
    refine Bg.bindK (K:=K) x y mk fun Q E h=>?_
    exact Calls.evalArgs_plain (wpAny_mono h (fun vs s' h'=>⟨rfl,h'⟩) fun _ _ q=>q)
theorem Ei (args:List Expr):(args.map fun e=>(false,eval e env)).any (·.1)=false:=by
  induction args with
  | nil=>rfl
  | cons e es ih=>rw [List.map_cons,List.any_cons,ih];rfl
theorem Jc {α:Type} (t:Sem α):Qo fun Q E s=>wpAny (model cx.prog cx.w) A t Q E s:=fun _ _ _ _ _ h k1 k2=>wpAny_mono h k1 k2
theorem Qs {Φ:Funs} {Γ:Env'} {es:MEs} {xs:List Expr} {pos:Pos} {id:String} {first:List Value} {g:List Val -> M Val} (hn:xs=[] -> es=.nil) (R:Rel cx H ρ s)
    (x:Bg cx A (evalEs cx.T Φ es Γ H) (spliced (xs.map fun e=>(false,eval e env))) (Amb.vrs cx) ρ s)
    (y:∀ ms vs H' ρ' s',evalEs cx.T Φ es Γ H=.ok ms H' -> Full ρ s.heap ρ' s'.heap -> Rel cx H' ρ' s' -> VRs cx ρ' s'.heap ms vs -> Bg cx A (g ms H') (call (.builtin id) (first++vs)) (Amb.vr cx) ρ' s') :
    Bg cx A ((evalEs cx.T Φ es Γ).bnd g H) (callWith pos (.builtin id) first (xs.map fun e=>(false,eval e env)) []) (Amb.vr cx) ρ s :=
  (Fy (f:=.builtin id) (K:=fun vs Q E s=>wpAny (model cx.prog cx.w) A (call (.builtin id) (first++vs)) Q E s) hn R x y (fun _=>Jc _)).mono fun Q E h =>
    Calls.callWith_builtin (Ei _) (wpAny_mono h (fun a s₁ h₁=>by rw [h₁.1];exact h₁.2) fun _ _ q=>q)
noncomputable def Amm:BM -> String
  | .append=>"list.append"
  | .pop=>"list.pop"
  | .dpop=>"dict.pop"
  | .clear=>"list.clear"
  | .rstrip=>"str.rstrip"
noncomputable def Vx (m:BM):String × String:=(Pd m,Amm m)
theorem Wm (m:BM):PlainAttrs (Vx m).1:=by
  cases m <;> first | exact F.plainAttrs_list | exact F.plainAttrs_dict | exact F.plainAttrs_str
theorem Aar (m:BM):Slot (Vx m).1 (Hi m).1 (Vx m).2:=by
  cases m
  · exact F.slot_list_append
  · exact F.slot_list_pop
  · exact F.slot_dict_pop
  · exact F.slot_list_clear
  · exact F.slot_str_rstrip
set_option maxRecDepth 100000 in
theorem Aas (m:BM):typeOf (.builtin (Vx m).2)=pure (.type "method_descriptor"):=by
  cases m <;> kernel_rfl
theorem Aat {m:BM} {b:Val} {v:Value} (R:Rel cx H ρ s) (x:VR cx ρ s.heap b v) (h:E2 m b H=some ()):s.TypeIs v (Vx m).1 /\ ∀ q,v=.ref q -> ∃ ob,s.heap.get? q=some ob /\ ob.dict=none:=by
  have h:=(Lr h).1
  show s.TypeIs v (Pd m) /\ _
  generalize Pd m=T at h
  cases x with
  | str y t z=>cases h;exact ⟨typeIs_str _ _ _,fun q e=>nomatch e⟩
  | @loc l p hp =>
    refine Aag (C:=fun T=>s.TypeIs (.ref p.1) T /\ ∀ q,Value.ref p.1=.ref q -> ∃ ob,s.heap.get? q=some ob /\ ob.dict=none) h (fun xs hl=>Sl R hl hp) fun es hl=>?_
    refine Ah fun G kG=>?_
    refine ex1 (R.dictAt hl hp) fun xs zz=>Av zz fun _ D _=>?_
    refine ex3 D fun o _ _ zz=>Av zz fun g ex _=>?_
    refine kG ?_
    exact ⟨⟨_,g,ex.1⟩,fun q e=>by cases e;exact ⟨_,g,ex.2.1⟩⟩
  | _=>exact Ae h
theorem Y2 {Φ:Funs} {Γ:Env'} {a:ME} {m:BM} {es:MEs} {o:Expr} {xs:List Expr} {apos pos:Pos} (hs:Cu o=true) (hp:Cd env xs) (hz:xs.length <= 20) (hn:xs=[] -> es=.nil) (hline:(apos.endLine == pos.line)=true)
    (x:Sim cx A P (eval o env) (Am cx.T Φ a Γ) (Amb.vr cx)) (y:Sim cx A P (spliced (xs.map fun e=>(false,eval e env))) (evalEs cx.T Φ es Γ) (Amb.vrs cx))
    (k:∀ b v ms vs,ms.length=xs.length -> Sim cx A ((Amb.vr cx b v).and (Amb.vrs cx ms vs)) (call (.builtin (Vx m).2) (v :: vs)) (bmV m b ms) (Amb.vr cx)) (hlen:∀ H ms H',evalEs cx.T Φ es Γ H=.ok ms H' -> ms.length=xs.length) :
    Sim cx A P (eval (.Call (.Attribute o (Hi m).1 apos) xs [] pos) env) (Am cx.T Φ (.bm a m es) Γ) (Amb.vr cx):=by
  intro H ρ s R p
  refine Oc (T:=(Vx m).1) (id:=(Vx m).2) hs hp hz hline (Wm m) (Aar m) (Aas m) (x H ρ s R p) fun b v H1 ρ1 s1 _ F1 R1 vr=>?_
  refine Gs.lookK fun _ fit=>?_
  obtain ⟨t1,t2⟩:=Aat R1 vr fit
  refine Gs.mono (K:=fun Q E s=>wpAny (model cx.prog cx.w) A (callWith pos (.builtin (Vx m).2) [v] (xs.map fun e=>(false,eval e env)) []) Q E s) ?_ fun Q E h=>⟨t1,t2,h⟩
  refine Qs hn R1 (y H1 ρ1 s1 R1 (P.st _ _ _ _ p F1)) fun ms vs H2 ρ2 s2 e2 F2 R2 vrs=>?_
  exact k b v ms vs (hlen _ _ _ e2) H2 ρ2 s2 R2 ⟨vr.step F2.step,vrs⟩
end
section
variable {cx:Cx} {A:Around} {H:Hp} {ρ:Rho} {s:Shared}
theorem VRs.single {h:Heap} {ms:List Val} {vs:List Value} (y:VRs cx ρ h ms vs) (hl:ms.length=1):∃ m u,ms=[m] /\ vs=[u] /\ VR cx ρ h m u:=by
  cases y with
  | nil=>cases hl
  | cons y0 y =>
    cases y with
    | nil=>exact ⟨_,_,rfl,rfl,y0⟩
    | cons _ _=>cases hl
set_option tactic.hygienic true in
theorem Sm (b:Val) (v:Value) (ms:List Val) (vs:List Value) (hl:ms.length=1):Sim cx A ((Amb.vr cx b v).and (Amb.vrs cx ms vs)) (call (.builtin "list.append") (v :: vs)) (bmV .append b ms) (Amb.vr cx):=by
  intro H ρ s R ⟨x,y⟩
  refine ex2 (VRs.single y hl) fun m u zz=>Av zz fun zr2 zr3 y0=>?_;subst zr2;subst zr3
  cases x with
  | @loc l p hp =>
    show Bg cx A (match H[l]? with
      | some (.list xs)=>if xs.length < lid then Res.ok Val.none (H.set l (.list (xs++[m]))) else .bad
      | some (.dict es)=>.bad
      | _=>.bad) _ _ ρ s
    split
    · rename_i xs e
      refine Ah fun G kG=>?_
      refine ex2 (R.listAt e hp) fun ws n zz=>Cg zz fun hpp g r z=>?_
      refine kG ?_
      by_cases q:xs.length < lid
      · rw [if_pos q]
        rw [Dr] at q
        refine call_meets F.slot_list_append ⟨_,g,rfl⟩ F.entry_list_append (F.args_list_append_2 _ _) (list_append p.1 ws.toArray n u (Ie r z)) ⟨g,?_⟩
        exact Hl R hp hpp g (fun x=>x.push u) (by simpa using r.append (.one y0)) (by rw [List.length_append];exact q) fun _ _=>.none
      · rw [if_neg q];trivial
    · trivial
    · trivial
  | _=>trivial
set_option tactic.hygienic true in
theorem Wn (b:Val) (v:Value) (ms:List Val) (vs:List Value) (hl:ms.length=0):Sim cx A ((Amb.vr cx b v).and (Amb.vrs cx ms vs)) (call (.builtin "list.clear") (v :: vs)) (bmV .clear b ms) (Amb.vr cx):=by
  intro H ρ s R ⟨x,y⟩
  match ms,hl,y with
  | [],_,.nil =>
    cases x with
    | @loc l p hp =>
      show Bg cx A (match H[l]? with
        | some (.list xs)=>Res.ok Val.none (H.set l (.list []))
        | some (.dict es)=>.bad
        | _=>.bad) _ _ ρ s
      split
      · rename_i xs e
        refine Ah fun G kG=>?_
        refine ex2 (R.listAt e hp) fun ws n zz=>Cg zz fun hpp g r z=>?_
        refine kG ?_
        refine call_meets F.slot_list_clear ⟨_,g,rfl⟩ F.entry_list_clear (F.args_list_clear_1 _) (AutoSeq1.list_clear_list_0 p.1 ws.toArray n (Ie r z)) ⟨g,?_⟩
        exact Hl R hp hpp g (fun _=>#[]) (by simpa using VRs.nil) (by simp) fun _ _=>.none
      · trivial
      · trivial
    | _=>trivial
set_option tactic.hygienic true in
theorem Ad8 (b:Val) (v:Value) (ms:List Val) (vs:List Value) (hl:ms.length=0):Sim cx A ((Amb.vr cx b v).and (Amb.vrs cx ms vs)) (call (.builtin "list.pop") (v :: vs)) (bmV .pop b ms) (Amb.vr cx):=by
  intro H ρ s R ⟨x,y⟩
  match ms,hl,y with
  | [],_,.nil =>
    cases x with
    | @loc l p hp =>
      show Bg cx A (match H[l]? with
        | some (.list xs)=>match xs.getLast? with
          | some v=>Res.ok v (H.set l (.list xs.dropLast))
          | none=>.bad
        | some (.dict es)=>.bad
        | _=>.bad) _ _ ρ s
      split
      · rename_i xs e
        refine ex2 (R.listAt e hp) fun ws n zz=>Cg zz fun hpp g r z=>?_
        split
        · rename_i m em
          rw [List.getLast?_eq_getElem?] at em
          refine ex1 (r.get em) fun u zz=>Ad zz fun eu vu=>?_
          have len:=r.length
          refine call_meets F.slot_list_pop ⟨_,g,rfl⟩ F.entry_list_pop (F.args_list_pop_1 _) (MeetsSeq.list_pop_last p.1 ws.toArray n u (by simpa [len] using eu) (Ie r z)) ⟨g,?_⟩
          refine Hl R hp hpp g (fun x=>x.eraseIdxIfInBounds (ws.toArray.size - 1)) ?_ (by rw [List.length_dropLast];exact o16 len z) fun h F=>vu.step F.step
          have e1:(ws.toArray.eraseIdxIfInBounds (ws.toArray.size - 1)).toList=ws.eraseIdx (ws.length - 1):=by simp
          have e2:∀ {α:Type} (l:List α),l.dropLast=l.eraseIdx (l.length - 1):=fun l=>by
            rw [List.dropLast_eq_take,List.eraseIdx_eq_take_drop_succ]
            rw [List.drop_eq_nil_of_le (by exact o17),List.append_nil]
          rw [e1,e2,<- len]
          exact r.eraseIdx _
        · trivial
      · trivial
      · trivial
    | _=>trivial
theorem Sn (b:Val) (v:Value) (ms:List Val) (vs:List Value) (hl:ms.length=0):Sim cx A ((Amb.vr cx b v).and (Amb.vrs cx ms vs)) (call (.builtin "str.rstrip") (v :: vs)) (bmV .rstrip b ms) (Amb.vr cx):=by
  intro H ρ s R ⟨x,y⟩
  match ms,hl,y with
  | [],_,.nil =>
    cases x with
    | str y t z =>
      show Bg cx A (if (Txt.rstrip y).length <= lid then Res.ok (Val.str (Txt.rstrip y)) H else .bad) _ _ ρ s
      by_cases q:(Txt.rstrip y).length <= lid
      · rw [if_pos q]
        rw [Dr] at q
        exact At R fun Q E k=>SC.rstrip (fun t' tk=>k _ _ (.str _ _ q)) z
      · rw [if_neg q];trivial
    | _=>simp only [bmV];(try split) <;> trivial
end
end Mine.Internal
namespace Mine.Internal
open PySem PySem.MeetsSeq PySem.SeqAt
section
variable {cx:Cx} {A:Around} {H:Hp} {ρ:Rho} {s:Shared}
end
end Mine.Internal
namespace Mine.Internal
open PySem
section
variable {prog:Program} {w:World} {K:Type} [DecidableEq K] {knd:HeapKind prog w K} {A:Around} {E:Value -> Shared -> Prop} {s:Shared}
theorem M6 {α β:Type} (f:α -> β) (l:List α) (j:Nat):(l.map f).eraseIdx j=(l.eraseIdx j).map f:=by
  induction l generalizing j with
  | nil=>rfl
  | cons a l ih =>
    cases j with
    | zero=>rfl
    | succ j=>exact congrArg (f a :: ·) (ih j)
theorem M7 {d a:Addr} {xs:List (K × Addr × Value)} {k:K} {p:Addr × Value} {Q:Option DictEntry -> Shared -> Prop} (hu:knd.room A) (hkey:knd.is s.heap k a) (hm:s.heap.DictOfH knd d xs) (hp:atKey xs k=some p) (hz:xs.length <= sizeLine)
    (hQ:∀ j h',xs[j]?=some (k,p) -> h'.DictOfH knd d (xs.eraseIdx j) -> Heap.SameBut d s.heap h' -> Q (some (entryOfKey knd (k,p))) { s with heap:=h',toks:=s.toks+knd.draws k }):wpAny (model prog w) A (Builtin.Dict.takeOut d (.ref a)) Q E s:=by
  refine Ah fun G kG=>?_
  refine ex3 hm fun o es ep zz=>Lp zz fun ho hc hd he his hn=>?_
  refine kG ?_
  have hes:es.size <= sizeLine:=by rw [size_of_entries he];exact hz
  unfold Builtin.Dict.takeOut
  try with_reducible refine wpAny_holding ?_
  refine wpAny_bind (knd.pyHash hu hkey (wpAny_bind (wpAny_dictFind_heap (s:={ s with toks:=s.toks+knd.draws k }) hu hkey ho hd he his hn ?_ ?_)))
  · intro hno
    rw [atKey_none_of_get hno] at hp;exact Ae hp
  · intro j q hj
    have e:=atKey_of_get hn hj
    rw [hp] at e;cases e
    refine wpAny_bind (wpAny_dictEntries (s:={ s with toks:=s.toks+knd.draws k }) ho hd ?_)
    rw [entry_at he j,hj]
    refine wpAny_bind (wpAny_updateDictKeys (hz:=hes) (s:={ s with toks:=s.toks+knd.draws k }) ho hd (wpAny_pure (hQ j _ hj ⟨_,_,ep+1,Heap.get?_update_self _ ho (Obj.isFreed_of_dict (Obj.data_mapDictKeys hd _)),
      hc.mapDictKeys _,Obj.data_mapDictKeys hd _,?_,fun x hx=>knd.keeps (his x (List.mem_of_mem_eraseIdx hx)) ho hd (Heap.SameBut.update ..),?_⟩ (Heap.SameBut.update ..))))
    · obtain ⟨l⟩:=es
      simp only [List.eraseIdxIfInBounds_toArray]
      rw [show l=xs.map (entryOfKey knd) from he,M6]
    · rw [<- M6]
      exact hn.sublist (List.eraseIdx_sublist _ _)
theorem Ly {d a:Addr} {xs:List (K × Addr × Value)} {k:K} {p:Addr × Value} {Q:Value -> Shared -> Prop} (hu:knd.room A.in1) (hkey:knd.is s.heap k a) (hm:s.heap.DictOfH knd d xs) (hp:atKey xs k=some p) (hz:xs.length <= sizeLine)
    (hQ:∀ j h',xs[j]?=some (k,p) -> h'.DictOfH knd d (xs.eraseIdx j) -> Heap.SameBut d s.heap h' -> Q p.2 { s with heap:=h',toks:=s.toks+knd.draws k }):wpAny (model prog w) A (call (.builtin "dict.pop") [.ref d,.ref a]) Q E s:=by
  refine wpAny_call_entry F.slot_dict_pop hm.typeIs F.entry_dict_pop ?_ (F.args_dict_pop_2 _ _)
  have hm':=hm
  refine Ah fun G kG=>?_
  refine ex3 hm fun o es ep zz=>Lp zz fun ho hc hd he _ _=>?_
  refine kG ?_
  unfold Builtin.«dict.pop»
  refine wpAny_bind ?_
  unfold Builtin.Dict.keyAndDefault
  refine wpAny_bind (wpAny_notOrdered_dict hm'.typeIs ?_)
  refine wpAny_pure ?_
  have ne:es.isEmpty=false:=by
    rw [Array.isEmpty_eq_false_iff_exists_mem]
    refine ex1 (Option.map_eq_some_iff.mp hp) fun x zz=>Ad zz fun hx _=>?_
    exact ⟨_,Array.mem_toList_iff.mp (by rw [he];exact List.mem_map.mpr ⟨x,List.mem_of_find?_eq_some hx,rfl⟩)⟩
  have hpart:(keyPart (.ref a)).isSome=false:=rfl
  simp only [hpart,Bool.false_eq_true,if_false]
  refine wpAny_bind (wpAny_dictEntries ho hd (wpAny_bind (wpAny_pure ?_)))
  simp only [ne,Bool.false_eq_true,if_false]
  refine wpAny_bind (M7 hu hkey hm' hp hz fun j h' hj hm2 hs=>?_)
  simp only [Option.isNone_some,Bool.false_eq_true,if_false]
  exact wpAny_bind (wpAny_letGo (wpAny_pure ⟨p.2,rfl,hQ j h' hj hm2 hs⟩))
end
section
variable {prog:Program} {w:World} {K:Type} [DecidableEq K] {knd:HeapKind prog w K}
theorem Od {h:Heap} {xs:List (K × Addr × Value)} {k:K} {a:Addr} {v:Value} (ks:∀ x∈xs,knd.is h x.1 x.2.1) (hk:knd.is h k a):∀ x∈storedH xs k a v,knd.is h x.1 x.2.1:=by
  intro x hx
  unfold storedH at hx
  by_cases q:(atKey xs k).isSome=true
  · rw [if_pos q] at hx
    refine ex1 (List.mem_map.mp hx) fun y zz=>Ad zz fun hy hr0=>?_;refine hr0▸?_
    unfold putAt
    by_cases e:y.1=k
    · rw [if_pos e];exact ks y hy
    · rw [if_neg e];exact ks y hy
  · rw [if_neg q] at hx
    rcases List.mem_append.mp hx with hx | hx
    · exact ks x hx
    · rw [List.mem_singleton.mp hx];exact hk
end
section
variable {cx:Cx} {A:Around} {P:Amb} {H:Hp} {ρ:Rho} {s:Shared} {h:Heap}
theorem DRs.length {es:List (Key × Val)} {xs:List (List Int × Addr × Value)} (r:DRs cx ρ h es xs):xs.length=es.length:=by
  induction r with
  | nil=>rfl
  | cons _ _ _ ih=>exact congrArg (·+1) ih
theorem Ad9 {k k':Key} (q:¬ k'=k):¬ ([k'.1,k'.2]=[k.1,k.2]):=fun e=>q (by
  simp only [List.cons.injEq,and_true] at e
  exact Prod.ext e.1 e.2)
theorem DRs.put {es:List (Key × Val)} {xs:List (List Int × Addr × Value)} {k:Key} {a:Addr} {m:Val} {v:Value} (r:DRs cx ρ h es xs) (hn:(xs.map (·.1)).Nodup) (x:VR cx ρ h m v) (no:¬ A1 ρ a):DRs cx ρ h (Fb es k m) (storedH xs [k.1,k.2] a v):=by
  induction r with
  | nil=>exact .cons x no .nil
  | @cons k' v' b y es xs a' n r ih =>
    rw [List.map_cons,List.nodup_cons] at hn
    by_cases q:k'=k
    · refine q▸?_
      have e1:storedH (([k'.1,k'.2],b,y) :: xs) [k'.1,k'.2] a v=([k'.1,k'.2],b,v) :: xs:=by
        unfold storedH
        rw [if_pos (by simp [PySem.atKey]),List.map_cons]
        congr 1
        · simp [putAt]
        · refine (List.map_congr_left fun z hz=>?_).trans (List.map_id _)
          unfold putAt
          rw [if_neg fun e=>hn.1 (List.mem_map.mpr ⟨z,hz,e⟩)];rfl
      rw [e1]
      show DRs cx ρ h (if k'=k' then _ else _) _
      rw [if_pos rfl]
      exact .cons x n r
    · have q':=Ad9 q
      have e2:PySem.atKey (([k'.1,k'.2],b,y) :: xs) [k.1,k.2]=PySem.atKey xs [k.1,k.2]:=by
        unfold PySem.atKey
        rw [List.find?_cons]
        simp only [decide_eq_false q']
      have e1:storedH (([k'.1,k'.2],b,y) :: xs) [k.1,k.2] a v=([k'.1,k'.2],b,y) :: storedH xs [k.1,k.2] a v:=by
        unfold storedH
        rw [e2]
        split
        · rw [List.map_cons];congr 1
          unfold putAt;rw [if_neg q']
        · rfl
      rw [e1]
      show DRs cx ρ h (if k'=k then _ else _) _
      rw [if_neg q]
      exact .cons a' n (ih hn.2)
theorem DRs.del {es:List (Key × Val)} {xs:List (List Int × Addr × Value)} {k:Key} {j:Nat} {p:Addr × Value} (r:DRs cx ρ h es xs) (hn:(xs.map (·.1)).Nodup) (hj:xs[j]?=some ([k.1,k.2],p)):DRs cx ρ h (Z9 es k) (xs.eraseIdx j):=by
  induction r generalizing j with
  | nil=>exact Ae hj
  | @cons k' v' b y es xs a' n r ih =>
    rw [List.map_cons,List.nodup_cons] at hn
    show DRs cx ρ h (if k'=k then _ else _) _
    cases j with
    | zero =>
      have e:=Option.some.inj hj
      have:k'=k:=by
        have e:=congrArg Prod.fst e
        simp only [List.cons.injEq,and_true] at e
        exact Prod.ext e.1 e.2
      rw [if_pos this];exact r
    | succ j =>
      have hj':xs[j]?=some ([k.1,k.2],p):=hj
      have:¬ k'=k:=fun e=>hn.1 (e▸List.mem_map.mpr ⟨_,List.mem_of_getElem? hj',rfl⟩)
      rw [if_neg this]
      exact .cons a' n (ih hn.2 hj')
theorem DRs.sub {es:List (Key × Val)} {xs:List (List Int × Addr × Value)} {k:Key} {m:Val} (r:DRs cx ρ s.heap es xs) (h:D5 es k=some m):∃ p,PySem.atKey xs [k.1,k.2]=some p /\ VR cx ρ s.heap m p.2:=by
  have a:=r.atKey k
  rw [h] at a
  cases e:PySem.atKey xs [k.1,k.2] with
  | none=>rw [e] at a;exact a.elim
  | some p=>rw [e] at a;exact ⟨p,rfl,a⟩
theorem Oe (es:List (Key × Val)) (k:Key) (v:Val):(Fb es k v).length <= es.length+1:=by
  induction es with
  | nil=>exact Nat.le_refl _
  | cons e es ih =>
    show (if e.1=k then _ else _:List (Key × Val)).length <= _
    by_cases q:e.1=k
    · rw [if_pos q];exact Nat.le_succ _
    · rw [if_neg q];exact Nat.succ_le_succ ih
theorem Of (es:List (Key × Val)) (k:Key):(Z9 es k).length <= es.length:=by
  induction es with
  | nil=>exact Nat.le_refl _
  | cons e es ih =>
    show (if e.1=k then _ else _:List (Key × Val)).length <= _
    by_cases q:e.1=k
    · rw [if_pos q];exact Nat.le_succ _
    · rw [if_neg q];exact Nat.succ_le_succ ih
theorem Pi {l:Nat} {p:Addr × Addr} {es:List (Key × Val)} {xs:List (List Int × Addr × Value)} {h':Heap} {tk:Nat} (R:Rel cx H ρ s) (hl:ρ[l]?=some p) (hpp:p.2=p.1) (hm:h'.DictOfH (cellKind cx) p.1 xs) (hs:Heap.SameBut p.1 s.heap h')
    (hk:∀ x∈xs,(cellKind cx).is s.heap x.1 x.2.1) (r:DRs cx ρ s.heap es xs) (z:es.length <= sizeLine):Full ρ s.heap ρ h' /\ Rel cx (H.set l (.dict es)) ρ { s with heap:=h',toks:=tk }:=by
  have hm':=hm
  refine Ah fun G kG=>?_
  refine ex3 hm fun o _ _ zz=>Ad zz fun e' _=>?_
  refine kG ?_
  have F:=Full.own ⟨p,List.mem_of_getElem? hl,.inl rfl⟩ e' hs
  refine R.set hl (fun b ob eb n1 _=>by rw [hs.2 b n1];exact eb) (SameBut.live hs e') ?_
  obtain ⟨p1,p2⟩:=p
  dsimp only at hpp
  refine Eq.symm hpp▸?_
  exact .dict hm' (r.step F.step hk) z
theorem Wo {env:Env} {Φ:Funs} {Γ:Env'} {pos:Pos}:Sim cx A P (eval (.Dict [] [] pos) env) (Am cx.T Φ .dict Γ) (Amb.vr cx):=by
  intro H ρ s R p
  refine wpAny_Dict_empty ?_
  have kp:∀ b o,s.heap.get? b=some o -> (s.heap.push { cls:=.type "dict",data:=.dict #[] }).get? b=some o:=fun b o e=>Heap.get?_push_of_some _ e
  obtain ⟨F,R'⟩:=R.alloc (tk:=s.toks) (o:=.dict []) (p:=(s.heap.objs.size,s.heap.objs.size)) kp ⟨Ar _,Ar _⟩
    (.dict (Heap.DictOfH.new _) .nil (Nat.zero_le _))
  refine ⟨_,F,R',?_⟩
  rw [R.len]
  exact VR.loc (p:=(s.heap.objs.size,s.heap.objs.size)) (by rw [List.getElem?_append_right (Nat.le_refl _)];simp)
set_option tactic.hygienic true in
theorem Aau (hu:A.units+100 < cLine) (b:Val) (v:Value) (ms:List Val) (vs:List Value) (hl:ms.length=1):Sim cx A ((Amb.vr cx b v).and (Amb.vrs cx ms vs)) (call (.builtin "dict.pop") (v :: vs)) (bmV .dpop b ms) (Amb.vr cx):=by
  intro H ρ s R ⟨x,y⟩
  refine ex2 (VRs.single y hl) fun m u zz=>Av zz fun hm hv y0=>?_
  subst hm
  subst hv
  cases x with
  | @loc l p hp =>
    show Bg cx A (match H[l]? with
      | some (.list xs)=>.bad
      | some (.dict es)=>(match Ef m with
        | some k=>(match D5 es k with
          | some v=>Res.ok v (H.set l (.dict (Z9 es k)))
          | none=>.bad)
        | none=>.bad)
      | _=>.bad) _ _ ρ s
    cases e:H[l]? with
    | none=>trivial
    | some o =>
      cases o with
      | dict es =>
        show Bg cx A (match Ef m with
          | some k=>(match D5 es k with
            | some v=>Res.ok v (H.set l (.dict (Z9 es k)))
            | none=>.bad)
          | none=>.bad) _ _ ρ s
        cases ek:Ef m with
        | none=>trivial
        | some k =>
          show Bg cx A (match D5 es k with
            | some v=>Res.ok v (H.set l (.dict (Z9 es k)))
            | none=>.bad) _ _ ρ s
          cases eg:D5 es k with
          | none=>trivial
          | some r =>
            refine Ah fun G kG=>?_
            refine ex1 (R.dictAt e hp) fun xs zz=>Cg zz fun hpp D rr z=>?_
            refine ex1 (Pg y0 ek) fun bb zz=>Av zz fun hr hk no=>?_
            refine ex1 (rr.sub eg) fun q zz=>Ad zz fun hq vr=>?_
            have D':=D
            refine ex3 D' fun _ _ _ zz=>Lp zz fun _ _ _ _ ks nd=>?_
            refine kG ?_
            refine Eq.symm hr▸?_
            refine Ly (knd:=cellKind cx) (tupleKind_room_in1 (by exact o7 hu)) hk D hq (by rw [rr.length];exact z) fun j h' hj hm hs=>?_
            obtain ⟨F,R'⟩:=Pi (tk:=s.toks+(cellKind cx).draws [k.1,k.2]) R hp hpp hm hs (fun x hx=>ks x (List.mem_of_mem_eraseIdx hx)) (rr.del nd hj) (Nat.le_trans (Of es k) z)
            exact ⟨ρ,F,R',vr.step F.step⟩
      | _=>trivial
  | _=>trivial
end
section
variable {N:Names} {sc:Scope} {ns:List (Option Str)} {a b c:ME} {e:Expr} {es:MEs} {op op1 op2:COp}
theorem Pj (h:ck N sc ns .none e=true):∃ k pos,e=.Constant .none k pos:=by
  obtain ⟨t,h⟩:=Ab h
  exact ⟨_,_,t.2.trans (congrArg (fun c=>Expr.Constant c t.1.2.1 t.1.2.2) (Yw h))⟩
theorem Pk {v:Bool} (h:ck N sc ns (.bool v) e=true):∃ k pos,e=.Constant (.bool v) k pos:=by
  obtain ⟨t,h⟩:=Ab h
  obtain ⟨u,h⟩:=Ab h
  exact ⟨_,_,t.2.trans (congrArg (fun c=>Expr.Constant c t.1.2.1 t.1.2.2) (u.2.trans (congrArg Const.bool (eq_of_beq h).symm)))⟩
theorem So {v:Int} (h:ck N sc ns (.int v) e=true):∃ k pos,e=.Constant (.int v) k pos:=by
  obtain ⟨t,h⟩:=Ab h
  obtain ⟨u,h⟩:=Ab h
  exact ⟨_,_,t.2.trans (congrArg (fun c=>Expr.Constant c t.1.2.1 t.1.2.2) (u.2.trans (congrArg Const.int (of_decide_eq_true h).symm)))⟩
theorem Sp {v:Str} (h:ck N sc ns (.str v) e=true):∃ k pos,e=.Constant (.str v) k pos /\ v.length <= 1000:=by
  obtain ⟨t,h⟩:=Ab h
  obtain ⟨u,h⟩:=Ab h
  exact ⟨_,_,t.2.trans (congrArg (fun c=>Expr.Constant c t.1.2.1 t.1.2.2) (u.2.trans (congrArg Const.str (of_decide_eq_true (an1 h)).symm))),of_decide_eq_true (an2 h)⟩
theorem Wq {k:Nat} (h:ck N sc ns (.glob k) e=true):∃ x pos,e=.Name x pos /\ B5 sc x=true /\ D8 N.globs x k=true:=by
  obtain ⟨t,h⟩:=Ab h
  exact ⟨_,_,t.2,an1 h,an2 h⟩
theorem Sq {k:Nat} (h:ck N sc ns (.var k) e=true):∃ x pos,e=.Name x pos /\ We sc ns k x=true:=by
  obtain ⟨t,h⟩:=Ab h
  exact ⟨_,_,t.2,h⟩
theorem Sr {op:BOp} (h:ck N sc ns (.bin op a b) e=true):∃ l o r pos,e=.BinOp l o r pos /\ Afm op o=true /\ ck N sc ns a l=true /\ ck N sc ns b r=true:=by
  obtain ⟨t,h⟩:=Ab h
  exact ⟨_,_,_,_,t.2,an1 (an1 h),an2 (an1 h),an2 h⟩
theorem Aav (h:ck N sc ns (.neg a) e=true):∃ x pos,e=.UnaryOp .USub x pos /\ ck N sc ns a x=true:=by
  obtain ⟨t,h⟩:=Ab h
  exact ⟨_,_,t.2.trans (congrArg (fun o=>Expr.UnaryOp o t.1.2.1 t.1.2.2) (Yw (an1 h))),an2 h⟩
theorem Aaw (h:ck N sc ns (.not a) e=true):∃ x pos,e=.UnaryOp .Not x pos /\ ck N sc ns a x=true:=by
  obtain ⟨t,h⟩:=Ab h
  exact ⟨_,_,t.2.trans (congrArg (fun o=>Expr.UnaryOp o t.1.2.1 t.1.2.2) (Yw (an1 h))),an2 h⟩
theorem Aax (h:ck N sc ns (.and a b) e=true):∃ x y rest pos,e=.BoolOp .And (x :: y :: rest) pos /\ ck N sc ns a x=true /\ ((rest=[] /\ ck N sc ns b y=true) \/ ck N sc ns b (.BoolOp .And (y :: rest) pos)=true):=by
  refine Ah fun G kG=>?_
  obtain ⟨t,h⟩:=Ab h
  obtain ⟨⟨⟨x,y,rest⟩,z2⟩,h2⟩:=Ab (an2 h)
  refine kG ?_
  refine ⟨x,y,rest,t.1.2.2,t.2.trans ((congrArg (fun o=>Expr.BoolOp o t.1.2.1 t.1.2.2) (Yw (an1 h))).trans (congrArg (fun o=>Expr.BoolOp .And o t.1.2.2) z2)),an1 h2,?_⟩
  cases rest with
  | nil=>exact .inl ⟨rfl,an2 h2⟩
  | cons _ _=>exact .inr (an2 h2)
theorem Aea (h:ck N sc ns (.or a b) e=true):∃ x y rest pos,e=.BoolOp .Or (x :: y :: rest) pos /\ ck N sc ns a x=true /\ ((rest=[] /\ ck N sc ns b y=true) \/ ck N sc ns b (.BoolOp .Or (y :: rest) pos)=true):=by
  obtain ⟨t,h⟩:=Ab h
  obtain ⟨⟨⟨x,y,rest⟩,z2⟩,h2⟩:=Ab (an2 h)
  refine ⟨x,y,rest,t.1.2.2,t.2.trans ((congrArg (fun o=>Expr.BoolOp o t.1.2.1 t.1.2.2) (Yw (an1 h))).trans (congrArg (fun o=>Expr.BoolOp .Or o t.1.2.2) z2)),an1 h2,?_⟩
  cases rest with
  | nil=>exact .inl ⟨rfl,an2 h2⟩
  | cons _ _=>exact .inr (an2 h2)
theorem Ss (h:ck N sc ns (.cmp op a b) e=true):∃ l r pos,e=.Compare l [I8 op] [r] pos /\ ck N sc ns a l=true /\ ck N sc ns b r=true /\ D6 r=true:=by
  obtain ⟨t,h⟩:=Ab h
  obtain ⟨u,h2⟩:=Ab (an2 h)
  exact ⟨_,_,_,t.2.trans ((congrArg (fun o=>Expr.Compare t.1.1 o t.1.2.2.1 t.1.2.2.2) (of_decide_eq_true (an1 h))).trans (congrArg (fun o=>Expr.Compare t.1.1 _ o t.1.2.2.2) u.2)),an1 (an1 h2),an2 (an1 h2),an2 h2⟩
theorem Wr (h:ck N sc ns (.cmp2 op1 op2 a b c) e=true):∃ l m r pos,e=.Compare l [I8 op1,I8 op2] [m,r] pos /\ ck N sc ns a l=true /\ ck N sc ns b m=true /\ ck N sc ns c r=true /\ D6 r=true:=by
  obtain ⟨t,h⟩:=Ab h
  obtain ⟨u,h2⟩:=Ab (an2 h)
  exact ⟨_,_,_,_,t.2.trans ((congrArg (fun o=>Expr.Compare t.1.1 o t.1.2.2.1 t.1.2.2.2) (of_decide_eq_true (an1 h))).trans (congrArg (fun o=>Expr.Compare t.1.1 _ o t.1.2.2.2) u.2)),an1 (an1 (an1 h2)),an2 (an1 (an1 h2)),an2 (an1 h2),an2 h2⟩
theorem Aay (h:ck N sc ns (.sub a b) e=true):∃ v s pos,e=.Subscript v s pos /\ ck N sc ns a v=true /\ ck N sc ns b s=true:=by
  obtain ⟨t,h⟩:=Ab h
  exact ⟨_,_,_,t.2,an1 h,an2 h⟩
theorem Su {lo hi:MEo} (h:ck N sc ns (.slice a lo hi) e=true):∃ v l u p pos,e=.Subscript v (.Slice l u none p) pos /\ ck N sc ns a v=true /\ ckO N sc ns lo l=true /\ ckO N sc ns hi u=true:=by
  obtain ⟨t,h⟩:=Ab h
  obtain ⟨u,h⟩:=Ab h
  exact ⟨_,_,_,_,_,t.2.trans (congrArg (fun o=>Expr.Subscript t.1.1 o t.1.2.2) (u.2.trans (congrArg (fun o=>Expr.Slice u.1.1 u.1.2.1 o u.1.2.2.2) (Yw (an2 h))))),an1 (an1 (an1 h)),an2 (an1 (an1 h)),an2 (an1 h)⟩
theorem Aaz (h:ck N sc ns (.tup es) e=true):∃ xs k pos,e=.Tuple xs k pos /\ ckEs N sc ns es xs=true /\ xs.length <= 1000:=by
  obtain ⟨t,h⟩:=Ab h
  exact ⟨_,_,_,t.2,an1 h,of_decide_eq_true (an2 h)⟩
theorem Ws (h:ck N sc ns (.list es) e=true):∃ xs pos,e=.List xs pos /\ ckEs N sc ns es xs=true /\ xs.length <= 1000:=by
  obtain ⟨t,h⟩:=Ab h
  exact ⟨_,_,t.2,an1 h,of_decide_eq_true (an2 h)⟩
theorem Wt (h:ck N sc ns .dict e=true):∃ pos,e=.Dict [] [] pos:=by
  obtain ⟨t,h⟩:=Ab h
  exact ⟨t.1.2.2,t.2.trans (by rw [List.isEmpty_iff.mp (an1 h),List.isEmpty_iff.mp (an2 h)])⟩
theorem Wu {n:Nat} (h:ck N sc ns (.attr a n) e=true):∃ v y pos,e=.Attribute v y pos /\ ck N sc ns a v=true /\ D8 N.attrs y n=true /\ Cu v=true:=by
  obtain ⟨t,h⟩:=Ab h
  exact ⟨_,_,_,t.2,an1 (an1 h),an2 (an1 h),an2 h⟩
theorem Pl {f:Nat} (h:ck N sc ns (.call f es) e=true):∃ x np xs pos,e=.Call (.Name x np) xs [] pos /\ B5 sc x=true /\ D8 N.funs x f=true /\ ckEs N sc ns es xs=true /\ xs.length <= 20:=by
  obtain ⟨t,h⟩:=Ab h
  exact ⟨_,_,_,_,t.2,an1 (an1 (an1 h)),an2 (an1 (an1 h)),an2 (an1 h),of_decide_eq_true (an2 h)⟩
theorem Aa0 {f:Nat} (h:ck N sc ns (.new f es) e=true):∃ x np xs pos,e=.Call (.Name x np) xs [] pos /\ B5 sc x=true /\ D8 N.clss x f=true /\ ckEs N sc ns es xs=true /\ xs.length <= 20:=by
  obtain ⟨t,h⟩:=Ab h
  exact ⟨_,_,_,_,t.2,an1 (an1 (an1 h)),an2 (an1 (an1 h)),an2 (an1 h),of_decide_eq_true (an2 h)⟩
theorem Sv {m:Nat} (h:ck N sc ns (.umeth a m es) e=true):∃ o y apos xs pos,e=.Call (.Attribute o y apos) xs [] pos /\ ck N sc ns a o=true /\ D8 N.meths y m=true /\ ckEs N sc ns es xs=true /\ xs.length <= 20 /\ Cu o=true /\ (apos.endLine == pos.line)=true:=by
  obtain ⟨t,h⟩:=Ab h
  exact ⟨_,_,_,_,_,t.2.1,an1 (an1 (an1 (an1 h))),an2 (an1 (an1 (an1 h))),an2 (an1 (an1 h)),of_decide_eq_true (an2 (an1 h)),an2 h,t.2.2⟩
theorem Aeb {f:BF} (h:ck N sc ns (.bf f es) e=true):∃ x np xs pos,e=.Call (.Name x np) xs [] pos /\ B5 sc x=true /\ (Gu f).1=x /\ (Gu f).2=xs.length /\ ckEs N sc ns es xs=true:=by
  obtain ⟨t,h⟩:=Ab h
  exact ⟨_,_,_,_,t.2,an1 (an1 (an1 h)),of_decide_eq_true (an2 (an1 (an1 h))),of_decide_eq_true (an2 (an1 h)),an2 h⟩
theorem Y3 {m:BM} (h:ck N sc ns (.bm a m es) e=true):∃ o y apos xs pos,e=.Call (.Attribute o y apos) xs [] pos /\ ck N sc ns a o=true /\ (Hi m).1=y /\ (Hi m).2=xs.length /\ ckEs N sc ns es xs=true /\ Cu o=true /\ (apos.endLine == pos.line)=true:=by
  obtain ⟨t,h⟩:=Ab h
  exact ⟨_,_,_,_,_,t.2.1,an1 (an1 (an1 (an1 h))),of_decide_eq_true (an2 (an1 (an1 (an1 h)))),of_decide_eq_true (an2 (an1 (an1 h))),an2 (an1 h),an2 h,t.2.2⟩
theorem La {t:Ty} (h:ck N sc ns (.isinst a t) e=true):∃ f np x y yp pos,e=.Call (.Name f np) [x,.Name y yp] [] pos /\ B5 sc f=true /\ f=("isinstance":Str) /\ B5 sc y=true /\ ck N sc ns a x=true /\ Ah0 N y t=true:=by
  refine Ah fun G kG=>?_
  obtain ⟨p,h⟩:=Ab h
  obtain ⟨u,h⟩:=Ab h
  obtain ⟨w,h⟩:=Ab h
  refine kG ?_
  exact ⟨_,_,_,_,_,_,p.2.trans (congrArg (fun xs=>Expr.Call (.Name p.1.1 p.1.2.1) xs [] p.1.2.2.2) (u.2.trans (congrArg (fun y=>[u.1.1,y]) w.2))),an1 (an1 (an1 (an1 h))),of_decide_eq_true (an2 (an1 (an1 (an1 h)))),an2 (an1 (an1 h)),an2 (an1 h),an2 h⟩
theorem Pm {elt it:ME} {cond:MEo} (h:ck N sc ns (.comp elt it cond) e=true):∃ el x px i ifs csc pos,e=.ListComp el [⟨.Name x px,i,ifs,0⟩] csc pos /\ ck N sc ns it i=true /\ D6 i=true /\ Jx sc csc x=true /\
    ck N csc (Ep csc ns++[some x]) elt el=true /\ ckC N csc (Ep csc ns++[some x]) cond ifs=true:=by
  obtain ⟨t,h⟩:=Ab h
  obtain ⟨u,h⟩:=Ab h
  exact ⟨_,_,_,_,_,_,_,t.2.trans (congrArg (fun g=>Expr.ListComp t.1.1 g t.1.2.2.1 t.1.2.2.2) u.2),an1 (an1 (an1 (an1 h))),an2 (an1 (an1 (an1 h))),an2 (an1 (an1 h)),an2 (an1 h),an2 h⟩
noncomputable def Sw (comp:Bool):Expr -> Bool
  | .Constant ..=>true
  | .Name ..=>true
  | .BinOp ..=>true
  | .UnaryOp ..=>true
  | .BoolOp ..=>true
  | .Compare ..=>true
  | .Subscript ..=>true
  | .Tuple ..=>true
  | .List ..=>true
  | .Dict ..=>true
  | .Attribute ..=>true
  | .Call ..=>true
  | .ListComp ..=>comp
  | _=>false
noncomputable def Y4:ME -> Bool
  | .comp ..=>true
  | _=>false
theorem Bi {e e':Expr} {c:Bool} (h:e=e') (k:Sw c e'=true):Sw c e=true:=h▸k
theorem Sx {m:ME} (h:ck N sc ns m e=true):Sw (Y4 m) e=true:=by
  cases m with
  | none=>obtain ⟨t,_⟩:=Ab h;exact Bi t.2 rfl
  | bool v=>obtain ⟨t,_⟩:=Ab h;exact Bi t.2 rfl
  | int v=>obtain ⟨t,_⟩:=Ab h;exact Bi t.2 rfl
  | str v=>obtain ⟨t,_⟩:=Ab h;exact Bi t.2 rfl
  | glob k=>obtain ⟨t,_⟩:=Ab h;exact Bi t.2 rfl
  | var k=>obtain ⟨t,_⟩:=Ab h;exact Bi t.2 rfl
  | bin op a b=>obtain ⟨t,_⟩:=Ab h;exact Bi t.2 rfl
  | neg a=>obtain ⟨t,_⟩:=Ab h;exact Bi t.2 rfl
  | not a=>obtain ⟨t,_⟩:=Ab h;exact Bi t.2 rfl
  | and a b=>obtain ⟨t,_⟩:=Ab h;exact Bi t.2 rfl
  | or a b=>obtain ⟨t,_⟩:=Ab h;exact Bi t.2 rfl
  | cmp op a b=>obtain ⟨t,_⟩:=Ab h;exact Bi t.2 rfl
  | cmp2 op1 op2 a b c=>obtain ⟨t,_⟩:=Ab h;exact Bi t.2 rfl
  | sub a i=>obtain ⟨t,_⟩:=Ab h;exact Bi t.2 rfl
  | slice a lo hi=>obtain ⟨t,_⟩:=Ab h;exact Bi t.2 rfl
  | tup es=>obtain ⟨t,_⟩:=Ab h;exact Bi t.2 rfl
  | list es=>obtain ⟨t,_⟩:=Ab h;exact Bi t.2 rfl
  | dict=>obtain ⟨t,_⟩:=Ab h;exact Bi t.2 rfl
  | attr a n=>obtain ⟨t,_⟩:=Ab h;exact Bi t.2 rfl
  | call f es=>obtain ⟨t,_⟩:=Ab h;exact Bi t.2 rfl
  | new f es=>obtain ⟨t,_⟩:=Ab h;exact Bi t.2 rfl
  | umeth a m es=>obtain ⟨t,_⟩:=Ab h;exact Bi t.2.1 rfl
  | bf f es=>obtain ⟨t,_⟩:=Ab h;exact Bi t.2 rfl
  | bm a m es=>obtain ⟨t,_⟩:=Ab h;exact Bi t.2.1 rfl
  | isinst a t=>obtain ⟨t,_⟩:=Ab h;exact Bi t.2 rfl
  | comp elt it cond=>obtain ⟨t,_⟩:=Ab h;exact Bi t.2 rfl
end
noncomputable def Lz:Expr -> Bool
  | .Starred ..=>false
  | _=>true
theorem Cs {e:Expr} {es:List Expr} {env:Env} (h:Lz e=true):starEach (e :: es) env=(false,eval e env) :: starEach es env:=by
  cases e <;> first | rfl | exact Aq h
theorem Bm {N:Names} {sc:Scope} {ns:List (Option Str)} {m:ME} {e:Expr} (h:ck N sc ns m e=true):Lz e=true:=by
  have z:=Sx h
  cases e <;> first | rfl | exact Aq z
theorem B7 {N:Names} {sc:Scope} {ns:List (Option Str)} {env:Env}:∀ {ms:MEs} {xs:List Expr},ckEs N sc ns ms xs=true -> Cd env xs
  | .nil,[],_=>trivial
  | .nil,_ :: _,h=>by cases (show false=true from h)
  | .cons _ _,[],h=>by cases (show false=true from h)
  | .cons m ms,x :: xs,h=>by
    have h:=And.intro (an1 h) (an2 h)
    exact ⟨Cs (Bm h.1),B7 h.2⟩
theorem Fi {N:Names} {sc:Scope} {ns:List (Option Str)} {ms:MEs} (h:ckEs N sc ns ms []=true):ms=.nil:=by
  cases ms with
  | nil=>rfl
  | cons _ _=>cases (show false=true from h)
theorem Ch {T:Tab} {Φ:Funs} {Γ:Env'} {N:Names} {sc:Scope} {ns:List (Option Str)}:∀ {ms:MEs} {xs:List Expr} {H H':Hp} {vs:List Val},ckEs N sc ns ms xs=true -> evalEs T Φ ms Γ H=.ok vs H' -> vs.length=xs.length
  | .nil,[],H,H',vs,_,e=>by cases (show Res.ok [] H=.ok vs H' from e);rfl
  | .nil,_ :: _,_,_,_,h,_=>by cases (show false=true from h)
  | .cons _ _,[],_,_,_,h,_=>by cases (show false=true from h)
  | .cons m ms,x :: xs,H,H',vs,h,e=>by
    have h:=And.intro (an1 h) (an2 h)
    rw [V8] at e
    cases e1:Am T Φ m Γ H with
    | bad=>rw [Df e1] at e;exact Ee e
    | exc c H1=>rw [Fd e1] at e;exact Kx e
    | ok v H1 =>
      rw [D4 e1] at e
      cases e2:evalEs T Φ ms Γ H1 with
      | bad=>rw [Df e2] at e;exact Ee e
      | exc c H2=>rw [Fd e2] at e;exact Kx e
      | ok vs' H2 =>
        rw [D4 e2] at e
        cases e
        rw [List.length_cons,List.length_cons,Ch h.2 e2]
section
variable {cx:Cx} {N:Names} {A:Around} {P:Amb} {env:Env} {Φ:Funs} {Γ:Env'}
theorem Sy:Sim cx A P (spliced (([]:List Expr).map fun e=>(false,eval e env))) (evalEs cx.T Φ .nil Γ) (Amb.vrs cx):=by
  intro H ρ s R p
  exact wpAny_pure ⟨ρ,Full.refl _ _,R,.nil⟩
theorem Pn {m:ME} {ms:MEs} {e:Expr} {es:List Expr} (x:Sim cx A P (eval e env) (Am cx.T Φ m Γ) (Amb.vr cx)) (y:Sim cx A P (spliced (es.map fun e=>(false,eval e env))) (evalEs cx.T Φ ms Γ) (Amb.vrs cx)) :
    Sim cx A P (spliced ((e :: es).map fun e=>(false,eval e env))) (evalEs cx.T Φ (.cons m ms) Γ) (Amb.vrs cx):=by
  intro H ρ s R p
  refine Bg.bindK (K':=fun Q E s=>wpAny (model cx.prog cx.w) A (spliced ((e :: es).map fun e=>(false,eval e env))) Q E s) (K:=fun v Q E s=>wpAny (model cx.prog cx.w) A (spliced (es.map fun e=>(false,eval e env))) (fun vs s'=>Q (v :: vs) s') E s) (x H ρ s R p) ?_ ?_ ?_
  · intro b v H1 ρ1 s1 _ F1 R1 vr
    refine Bg.bindK (K':=fun Q E s=>wpAny (model cx.prog cx.w) A (spliced (es.map fun e=>(false,eval e env))) (fun vs s'=>Q (v :: vs) s') E s) (K:=fun vs Q E s=>Q (v :: vs) s) (y H1 ρ1 s1 R1 (P.st _ _ _ _ p F1)) ?_ ?_ ?_
    · intro bs vs H2 ρ2 s2 _ F2 R2 vrs
      exact ⟨ρ2,Full.refl _ _,R2,.cons (vr.step F2.step) vrs⟩
    · exact fun vs Q E Q' E' s h k _=>k _ _ h
    · exact fun Q E h=>h
  · exact fun v Q E Q' E' s h k1 k2=>wpAny_mono h (fun _ _=>k1 _ _) k2
  · exact fun Q E h=>Calls.spliced_cons h
theorem Aa1 {ms:MEs} {es:List Expr} {k:Nat} {pos:Pos} (hp:Cd env es) (hz:es.length <= 1000) (hlen:∀ H vs H',evalEs cx.T Φ ms Γ H=.ok vs H' -> vs.length=es.length) (y:Sim cx A P (spliced (es.map fun e=>(false,eval e env))) (evalEs cx.T Φ ms Γ) (Amb.vrs cx)) :
    Sim cx A P (eval (.Tuple es k pos) env) (Am cx.T Φ (.tup ms) Γ) (Amb.vr cx):=by
  intro H ρ s R p
  refine Bg.bindK (K':=fun Q E s=>wpAny (model cx.prog cx.w) A (eval (.Tuple es k pos) env) Q E s) (K:=fun vs Q E s₁=>vs.length <= sizeLine /\ Q (.ref s₁.heap.objs.size) { s₁ with heap:=s₁.heap.push (Wc vs 0) }) (y H ρ s R p) ?_ ?_ ?_
  · intro bs vs H1 ρ1 s1 e1 F1 R1 vrs
    have z:bs.length <= sizeLine:=by rw [hlen _ _ _ e1,sizeLine_eq];exact o18 hz
    have F:=Full.push ρ1 s1.heap (Wc vs 0)
    exact ⟨by rw [<- vrs.length];exact z,ρ1,F,R1.push _ _,.tup (Heap.get?_push_size _ rfl) (R1.fresh_not (Ar _)) z (vrs.step F.step)⟩
  · exact fun vs Q E Q' E' s h k1 _=>⟨h.1,k1 _ _ h.2⟩
  · exact fun Q E h=>wpAny_Tuple (by rw [Au pos hp];exact h)
theorem Wv {ms:MEs} {es:List Expr} {pos:Pos} (hp:Cd env es) (hz:es.length <= 1000) (hlen:∀ H vs H',evalEs cx.T Φ ms Γ H=.ok vs H' -> vs.length=es.length) (y:Sim cx A P (spliced (es.map fun e=>(false,eval e env))) (evalEs cx.T Φ ms Γ) (Amb.vrs cx)) :
    Sim cx A P (eval (.List es pos) env) (Am cx.T Φ (.list ms) Γ) (Amb.vr cx):=by
  intro H ρ s R p
  refine Bg.bindK (K':=fun Q E s=>wpAny (model cx.prog cx.w) A (eval (.List es pos) env) Q E s) (K:=fun vs Q E s₁=>vs.length <= sizeLine /\ Q (.ref s₁.heap.objs.size) { s₁ with heap:=s₁.heap.push (B1 vs 0) }) (y H ρ s R p) ?_ ?_ ?_
  · intro bs vs H1 ρ1 s1 e1 F1 R1 vrs
    have z:bs.length <= sizeLine:=by rw [hlen _ _ _ e1,sizeLine_eq];exact o18 hz
    refine Gs.andK (by rw [<- vrs.length];exact z) ?_
    exact R1.newList s1.toks vrs z
  · exact fun vs Q E Q' E' s h k1 _=>⟨h.1,k1 _ _ h.2⟩
  · exact fun Q E h=>wpAny_List (by rw [Au pos hp];exact h)
end
structure FullS (env:Env) (ρ:Rho) (h:Heap) (ρ':Rho) (h':Heap):Prop where
  grow:Ks ρ h ρ'
  keep:∀ b o,h.get? b=some o -> ¬ A1 ρ b -> b≠env.locals -> (∀ y,env.cells.lookup y≠some b) -> ∃ o',h'.get? b=some o' /\ Eg o o'
  live:Fh h h'
theorem Full.toS {env:Env} {ρ ρ':Rho} {h h':Heap} (x:Full ρ h ρ' h'):FullS env ρ h ρ' h':=⟨x.grow,fun b o e n _ _=>x.keep b o e n,x.live⟩
theorem FullS.refl (env:Env) (ρ:Rho) (h:Heap):FullS env ρ h ρ h:=(Full.refl ρ h).toS
theorem FullS.trans {env:Env} {ρ ρ' ρ'':Rho} {h h' h'':Heap} (x:FullS env ρ h ρ' h') (y:FullS env ρ' h' ρ'' h''):FullS env ρ h ρ'' h'' :=
  ⟨x.grow.trans y.grow x.live,fun b o e n n1 n2=>by
      refine ex1 (x.keep b o e n n1 n2) fun o' zz=>Ad zz fun e' u=>?_
      refine ex1 (y.keep b o' e' (x.grow.not n e) n1 n2) fun o'' zz=>Ad zz fun e'' u'=>?_
      exact ⟨o'',e'',u.trans u'⟩,x.live.trans y.live⟩
section
variable {cx:Cx} {N:Names} {A:Around} {env:Env} {sc:Scope} {ns:List (Option Str)}
theorem EnvSt.notLoc {ρ:Rho} {h:Heap} (x:EnvSt cx env sc ρ h) {b:Addr} {o:Obj} (e:h.get? b=some o) (n:∀ es k,o.data≠.dict es k):b≠env.locals:=fun q=>by
  refine ex1 x.loc fun m zz=>ex3 zz fun ob es ep zz=>Av zz fun e' d _=>?_
  rw [<- q,e] at e';cases e'
  exact n _ _ d
theorem EnvSt.notCell {ρ:Rho} {h:Heap} (x:EnvSt cx env sc ρ h) {b:Addr} {o:Obj} (e:h.get? b=some o) (n:∀ v,o.data≠.cell v) (y:Str):env.cells.lookup y≠some b:=fun q=>by
  obtain ⟨⟨v,ob,e',d⟩,_⟩:=x.cells y b q
  rw [e] at e';cases e'
  exact n _ d
theorem FullS.step {ρ ρ':Rho} {h h':Heap} (x:EnvSt cx env sc ρ h) (F:FullS env ρ h ρ' h'):Step ρ h ρ' h':=by
  refine ⟨let ⟨e,h1,_⟩:=F.grow;⟨e,h1⟩,fun b o e f n=>⟨?_,F.grow.not n e⟩,fun b o C e c n=>?_⟩
  · obtain ⟨o',e',u⟩:=F.keep b o e n (x.notLoc e f.notDict) (x.notCell e fun v q=>by rcases f with ⟨_,_,_,f⟩ | ⟨_,_,f⟩ <;> rw [q] at f <;> cases f)
    rw [e',u.exact f.notDict]
  · obtain ⟨o',e',u⟩:=F.keep b o e n (x.notLoc e c.notDict) (x.notCell e fun v q=>by obtain ⟨_,⟨_,f⟩,_⟩:=c;rw [q] at f;cases f)
    rw [u.exact c.notDict] at e'
    exact ⟨o,e',c,F.grow.not n e⟩
noncomputable def Cn (cx:Cx) (A:Around) (env:Env) (sc:Scope) (ns:List (Option Str)) (r:ResS) (t:Sem Flow) (ρ:Rho) (s:Shared):Prop :=
  match r with
  | .bad=>True
  | .next Γ' H'=>wpAny (model cx.prog cx.w) A t (fun f s'=>f=.next /\ ∃ ρ',FullS env ρ s.heap ρ' s'.heap /\ Rel cx H' ρ' s' /\ EnvOk cx env sc ns Γ' ρ' s'.heap) (fun _ _=>False) s
  | .ret v H'=>wpAny (model cx.prog cx.w) A t (fun f s'=>∃ v' ρ',f=.ret v' /\ FullS env ρ s.heap ρ' s'.heap /\ Rel cx H' ρ' s' /\ (VR cx ρ' s'.heap v v' /\ EnvSt cx env sc ρ' s'.heap)) (fun _ _=>False) s
  | .exc c Γ' H'=>wpAny (model cx.prog cx.w) A t (fun _ _=>False) (fun e s'=>∃ ρ',FullS env ρ s.heap ρ' s'.heap /\ Rel cx H' ρ' s' /\ EnvOk cx env sc ns Γ' ρ' s'.heap /\ Flying cx ρ' s.heap s'.heap c e) s
noncomputable def Gz (cx:Cx) (A:Around) (l:List Env) (env:Env) (sc:Scope) (ns:List (Option Str)) (t:Sem Flow) (m:Env' -> Hp -> ResS):Prop :=
  ∀ (Γ:Env') (H:Hp) (ρ:Rho) (s:Shared),Rel cx H ρ s -> EnvOk cx env sc ns Γ ρ s.heap -> A0 cx l ρ s.heap -> Cn cx A env sc ns (m Γ H) t ρ s
theorem Ej {Γ:Env'} {H:Hp} {ρ:Rho} {s:Shared} {i:Nat} {y:Str} {mv:Val} {v:Value} {Q:Unit -> Shared -> Prop} {E:Value -> Shared -> Prop} (hlen:Γ.length=ns.length) (hnd:∀ (i j:Nat) (y:Str),ns[i]?=some (some y) -> ns[j]?=some (some y) -> i=j)
    (R:Rel cx H ρ s) (e0:EnvOk cx env sc ns Γ ρ s.heap) (ho:Ft sc ns i y=true) (hv:VR cx ρ s.heap mv v)
    (k:∀ h' tk,FullS env ρ s.heap ρ h' -> Rel cx H ρ { s with heap:=h',toks:=tk } -> EnvOk cx env sc ns (Γ.set i (some mv)) ρ h' ->
      (∃ q o,((sc.names.lookup y=some .local /\ q=env.locals) \/ (sc.names.lookup y=some .cell /\ env.cells.lookup y=some q)) /\ Heap.SameBut q s.heap h' /\ h'.get? q=some o) -> Q () { s with heap:=h',toks:=tk }) :
    wpAny (model cx.prog cx.w) A (storeName env y v) Q E s:=by
  have hown:(sc.names.lookup y=some .local \/ sc.names.lookup y=some .cell) /\ ns[i]?=some (some y):=by
    exact ⟨Sf (an1 ho),of_decide_eq_true (an2 ho)⟩
  obtain ⟨hk,hi⟩:=hown
  have hiΓ:i < Γ.length:=by rw [hlen];exact (List.getElem?_eq_some_iff.mp hi).1
  have set_i:(Γ.set i (some mv))[i]?=some (some mv):=by rw [List.getElem?_set_self hiΓ]
  have set_j:∀ j,j≠i -> (Γ.set i (some mv))[j]?=Γ[j]?:=fun j hj=>List.getElem?_set_ne (fun q=>hj q.symm)
  rcases hk with hk | hk
  · have kd:env.kindOf y=some .local:=e0.st.kinds y _ hk
    obtain ⟨m,hm⟩:=e0.st.loc
    refine wpAny_storeName_local kd hm (fun h' hn hs=>?_) (by rw [e0.st.fn];rfl)
    refine ex3 (id hm) fun o es ep zz=>Av zz fun eo d _=>?_
    refine ex3 (id hn) fun o' es' ep' zz=>Av zz fun eo' d' _=>?_
    have n1:¬ Fx o:=fun f=>f.notDict _ _ d
    have n2:∀ C,¬ Dq o C:=fun C f=>f.notDict _ _ d
    have St:Step ρ s.heap ρ h':=Step.but eo' eo hs n1 n2
    have notc:∀ z c,env.cells.lookup z=some c -> c≠env.locals:=fun z c hc q=>by
      obtain ⟨⟨v,ob,e',dc⟩,_⟩:=e0.st.cells z c hc
      rw [q,eo] at e';cases e'
      rw [d] at dc;cases dc
    refine (fun a b c=>k h' (s.toks+1) a b c ⟨env.locals,o',.inl ⟨hk,rfl⟩,hs,eo'⟩) ⟨Ks.refl _ _,fun b ob eb _ nb _=>⟨ob,by rw [hs.2 b nb];exact eb,.refl ob⟩,SameBut.live hs eo'⟩ (R.but eo' eo hs n1 n2 e0.st.locN e0.st.locB) ⟨?_,by rw [List.length_set];exact hlen,?_⟩
    · refine ⟨e0.st.fn,e0.st.glob,e0.st.blt,e0.st.kinds,⟨_,hn⟩,e0.st.locN,e0.st.locB,fun z c hc=>?_,e0.st.hasCell,e0.st.apart⟩
      refine Av (e0.st.cells z c hc) fun zn0 c1 c2=>?_;obtain ⟨u,hu⟩:=zn0
      exact ⟨⟨u,Bn hu fun ob eb=>⟨ob,by rw [hs.2 c (notc z c hc)];exact eb,rfl⟩⟩,c1,c2⟩
    · intro j z mz hj hz
      by_cases q:j=i
      · subst q
        rw [set_i] at hz;cases hz
        rw [hi] at hj;cases hj
        exact ⟨v,.inl ⟨kd,_,hn,by simp⟩,hv.step St⟩
      · rw [set_j j q] at hz
        refine ex1 (e0.vals j z mz hj hz) fun u zz=>Ad zz fun hu ru=>?_
        have zy:z≠y:=fun e=>q (hnd j i y (e▸hj) hi)
        refine ⟨u,?_,ru.step St⟩
        rcases hu with ⟨kz,m',hm',ez⟩ | ⟨kz,c,hc,ez⟩
        · refine .inl ⟨kz,_,hn,?_⟩
          refine Ah fun G kG=>?_
          refine ex3 hm' fun o2 es2 ep2 zz=>Cg zz fun eo2 d2 _ f2=>?_
          refine ex3 hm fun o3 es3 ep3 zz=>Cg zz fun eo3 d3 _ f3=>?_
          refine kG ?_
          rw [eo2] at eo3;cases eo3
          rw [d2] at d3;cases d3
          simp only [if_neg zy]
          rw [<- f3 z,f2 z];exact ez
        · exact .inr ⟨kz,c,hc,Bn ez fun ob eb=>⟨ob,by rw [hs.2 c (notc z c hc)];exact eb,rfl⟩⟩
  · have kd:env.kindOf y=some .cell:=e0.st.kinds y _ hk
    refine Ah fun G kG=>?_
    obtain ⟨c,hc⟩:=e0.st.hasCell y (.inl hk)
    refine Av (e0.st.cells y c hc) fun zn0 cn cb=>?_;obtain ⟨u0,hu0⟩:=zn0
    refine kG ?_
    refine wpAny_storeName_cell e0.st.fn kd hc hu0 fun h' hn hs=>?_
    refine Ah fun G kG=>?_
    refine ex1 (id hu0) fun o zz=>Ad zz fun eo d=>?_
    refine ex1 (id hn) fun o' zz=>Ad zz fun eo' d'=>?_
    refine kG ?_
    have n1:¬ Fx o:=fun f=>by rcases f with ⟨_,_,_,f⟩ | ⟨_,_,f⟩ <;> rw [d] at f <;> cases f
    have n2:∀ C,¬ Dq o C:=fun C f=>by refine Av f fun _ zn1 _=>?_;obtain ⟨_,f⟩:=zn1;rw [d] at f;cases f
    have St:Step ρ s.heap ρ h':=Step.but eo' eo hs n1 n2
    have notl:env.locals≠c:=fun q=>by
      refine ex1 e0.st.loc fun m zz=>ex3 zz fun ob es ep zz=>Av zz fun e' dl _=>?_
      rw [q,eo] at e';cases e'
      rw [d] at dl;cases dl
    have locK:∀ ob,s.heap.get? env.locals=some ob -> ∃ o',h'.get? env.locals=some o' /\ o'.data=ob.data:=fun ob eb=>⟨ob,by rw [hs.2 _ notl];exact eb,rfl⟩
    refine (fun a b c'=>k h' s.toks a b c' ⟨c,o',.inr ⟨hk,hc⟩,hs,eo'⟩) ⟨Ks.refl _ _,fun b ob eb _ _ nb=>⟨ob,by rw [hs.2 b (fun q=>nb y (q▸hc))];exact eb,.refl ob⟩,SameBut.live hs eo'⟩ (R.but eo' eo hs n1 n2 cn cb) ⟨?_,by rw [List.length_set];exact hlen,?_⟩
    · obtain ⟨m,hm⟩:=e0.st.loc
      refine ⟨e0.st.fn,e0.st.glob,e0.st.blt,e0.st.kinds,⟨m,Bl hm locK⟩,e0.st.locN,e0.st.locB,fun z c' hc'=>?_,e0.st.hasCell,e0.st.apart⟩
      refine Av (e0.st.cells z c' hc') fun zn0 c1 c2=>?_;obtain ⟨u,hu⟩:=zn0
      by_cases q:c'=c
      · subst q;exact ⟨⟨_,hn⟩,c1,c2⟩
      · exact ⟨⟨u,Bn hu fun ob eb=>⟨ob,by rw [hs.2 c' q];exact eb,rfl⟩⟩,c1,c2⟩
    · intro j z mz hj hz
      by_cases q:j=i
      · subst q
        rw [set_i] at hz;cases hz
        rw [hi] at hj;cases hj
        exact ⟨v,.inr ⟨.inl kd,c,hc,hn⟩,hv.step St⟩
      · rw [set_j j q] at hz
        refine ex1 (e0.vals j z mz hj hz) fun u zz=>Ad zz fun hu ru=>?_
        have zy:z≠y:=fun e=>q (hnd j i y (e▸hj) hi)
        refine ⟨u,?_,ru.step St⟩
        rcases hu with ⟨kz,m',hm',ez⟩ | ⟨kz,c',hc',ez⟩
        · exact .inl ⟨kz,m',Bl hm' locK,ez⟩
        · have cc:c'≠c:=fun e=>zy (e0.st.apart z y c' hc' (e▸hc))
          exact .inr ⟨kz,c',hc',Bn ez fun ob eb=>⟨ob,by rw [hs.2 c' cc];exact eb,rfl⟩⟩
end
structure Off (cx:Cx) (ρ:Rho) (h g g':Heap):Prop where
  old:∀ b o o0,g.get? b=some o -> h.get? b=some o0 -> ∃ o',g'.get? b=some o' /\ Eg o o'
  own:∀ b o,g.get? b=some o -> A1 ρ b -> g'.get? b=some o
  base:∀ b o o0,g.get? b=some o -> cx.h₀.get? b=some o0 -> g'.get? b=some o
  fix:∀ b o,g.get? b=some o -> Fx o -> g'.get? b=some o
  exc:∀ b o C,g.get? b=some o -> Dq o C -> ∃ o',g'.get? b=some o' /\ Dq o' C
  cell:∀ b o v,g.get? b=some o -> o.data=.cell v -> g'.get? b=some o
  dict:∀ b o es n,g.get? b=some o -> o.data=.dict es n -> ∃ o',g'.get? b=some o' /\ Eg o o'
  live:Fh g g'
section
variable {cx:Cx} {ρ ρ₀:Rho} {h g g' g'':Heap} {H:Hp} {s:Shared} {env:Env} {sc:Scope} {ns:List (Option Str)} {Γ:Env'} {l:List Env}
theorem Off.refl:Off cx ρ h g g:=⟨fun _ o _ e _=>⟨o,e,.refl o⟩,fun _ _ e _=>e,fun _ _ _ e _=>e,fun _ _ e _=>e,fun _ o _ e x=>⟨o,e,x⟩,fun _ _ _ e _=>e,fun _ o _ _ e _=>⟨o,e,.refl o⟩,.refl g⟩
theorem Off.trans (x:Off cx ρ h g g') (y:Off cx ρ h g' g''):Off cx ρ h g g'':=by
  refine ⟨fun b o o0 e e0=>?_,fun b o e w=>y.own b o (x.own b o e w) w,fun b o o0 e e0=>y.base b o o0 (x.base b o o0 e e0) e0,fun b o e f=>y.fix b o (x.fix b o e f) f,fun b o C e f=>?_,fun b o v e d=>y.cell b o v (x.cell b o v e d) d,fun b o es n e d=>?_,x.live.trans y.live⟩
  · refine ex1 (x.old b o o0 e e0) fun o1 zz=>Ad zz fun e1 u1=>?_
    refine ex1 (y.old b o1 o0 e1 e0) fun o2 zz=>Ad zz fun e2 u2=>?_
    exact ⟨o2,e2,u1.trans u2⟩
  · refine ex1 (x.exc b o C e f) fun o1 zz=>Ad zz fun e1 f1=>?_
    exact y.exc b o1 C e1 f1
  · refine ex1 (x.dict b o es n e d) fun o1 zz=>Ad zz fun e1 u1=>?_
    refine ex1 (y.dict b o1 es n e1 (u1.data.trans d)) fun o2 zz=>Ad zz fun e2 u2=>?_
    exact ⟨o2,e2,u1.trans u2⟩
theorem Off.step (x:Off cx ρ h g g'):Step ρ g ρ g':=⟨⟨[],by simp⟩,fun b o e f n=>⟨x.fix b o e f,n⟩,fun b o C e c n=>by refine ex1 (x.exc b o C e c) fun o' zz=>Ad zz fun e' c'=>?_;exact ⟨o',e',c',n⟩⟩
theorem Off.rel {h':Heap} (x:Off cx ρ h s.heap h') (R:Rel cx H ρ s):Rel cx H ρ { s with heap:=h' } :=
  R.same (tk:=s.toks) x.step (fun b o w e=>x.own b o e w) fun b o e=>x.base b o o (R.base b o e) e
theorem Off.fullS (x:Off cx ρ h g g') (F:FullS env ρ₀ h ρ g):FullS env ρ₀ h ρ g':=⟨F.grow,fun b o e n n1 n2=>by
    refine ex1 (F.keep b o e n n1 n2) fun o1 zz=>Ad zz fun e1 u1=>?_
    refine ex1 (x.old b o1 o e1 e) fun o2 zz=>Ad zz fun e2 u2=>?_
    exact ⟨o2,e2,u1.trans u2⟩,F.live.trans x.live⟩
theorem Off.nsK (x:Off cx ρ h g g') {a:Addr} {m:Str -> Option Value} (n:g.Ns a m):g'.Ns a m:=by
  refine ex3 n fun o es ep zz=>Av zz fun e d r=>?_
  refine ex1 (x.dict a o _ _ e d) fun o' zz=>Ad zz fun e' u=>?_
  exact ⟨o',es,ep,e',u.data.trans d,r⟩
theorem Off.isCell (x:Off cx ρ h g g') {a:Addr} {v:Option Value} (n:g.IsCell a v):g'.IsCell a v:=by
  refine ex1 n fun o zz=>Ad zz fun e d=>?_
  exact ⟨o,x.cell a o _ e d,d⟩
theorem Off.envK (x:Off cx ρ h g g') (w:EnvOk cx env sc ns Γ ρ g):EnvOk cx env sc ns Γ ρ g':=by
  obtain ⟨m,hm⟩:=w.st.loc
  refine ⟨⟨w.st.fn,w.st.glob,w.st.blt,w.st.kinds,⟨m,x.nsK hm⟩,w.st.locN,w.st.locB,fun y c hc=>?_,w.st.hasCell,w.st.apart⟩,w.len,fun i y mv hi hm=>?_⟩
  · refine Av (w.st.cells y c hc) fun zn0 n b=>?_;obtain ⟨v,hv⟩:=zn0
    exact ⟨⟨v,x.isCell hv⟩,n,b⟩
  · refine ex1 (w.vals i y mv hi hm) fun v zz=>Ad zz fun hv r=>?_
    refine ⟨v,?_,r.step x.step⟩
    rcases hv with ⟨k,m,hm,e⟩ | ⟨k,c,hc,e⟩
    · exact .inl ⟨k,m,x.nsK hm,e⟩
    · exact .inr ⟨k,c,hc,x.isCell e⟩
theorem Off.frames (x:Off cx ρ h g g') (w:A0 cx l ρ g):A0 cx l ρ g':=fun env he=>by
  refine Ah fun G kG=>?_
  refine Ad (w env he) fun k zz=>ex2 zz fun L o zz=>Fc zz fun h1 h2 h3 zn6 h6=>?_;obtain ⟨es,n,h5⟩:=zn6
  refine ex1 (x.dict L o es n h3 h5) fun o' zz=>Ad zz fun e' u=>?_
  refine kG ?_
  exact ⟨k,L,o',h1,h2,e',⟨es,n,u.data.trans h5⟩,h6⟩
theorem Off.push (o:Obj):Off cx ρ h g (g.push o):=by
  have k:∀ b o',g.get? b=some o' -> (g.push o).get? b=some o':=fun b o' e=>Heap.get?_push_of_some o e
  exact ⟨fun b o _ e _=>⟨o,k b o e,.refl o⟩,fun b o e _=>k b o e,fun b o _ e _=>k b o e,fun b o e _=>k b o e,fun b o _ e x=>⟨o,k b o e,x⟩,fun b o _ e _=>k b o e,fun b o _ _ e _=>⟨o,k b o e,.refl o⟩,fun b o e=>⟨o,k b o e⟩⟩
theorem Off.upd {a:Addr} {o:Obj} {vs:Array Value} {f:Array Value -> Array Value} (e:g.get? a=some o) (d:o.data=.fields vs) (hn:h.get? a=none) (hb:cx.h₀.get? a=none) (no:¬ A1 ρ a) (nf:¬ Fx o):Off cx ρ h g (g.update a (Obj.mapFields f)):=by
  have self:=Heap.get?_update_self (h:=g) (Obj.mapFields f) e (Obj.isFreed_of_fields (Obj.data_mapFields d f))
  have k:∀ b o',b≠a -> g.get? b=some o' -> (g.update a (Obj.mapFields f)).get? b=some o':=fun b o' n e'=>(Heap.get?_update_other _ _ (Ne.symm n)).trans e'
  have is:∀ b o',g.get? b=some o' -> b=a -> o'=o:=fun b o' e' q=>by rw [q,e] at e';cases e';rfl
  refine ⟨fun b ob o0 eb e0=>⟨ob,k b ob (fun q=>by rw [q,hn] at e0;cases e0) eb,.refl ob⟩,fun b ob eb w=>k b ob (fun q=>no (q▸w)) eb,fun b ob o0 eb e0=>k b ob (fun q=>by rw [q,hb] at e0;cases e0) eb,
    fun b ob eb fx=>k b ob (fun q=>nf (is b ob eb q▸fx)) eb,fun b ob C eb x=>?_,fun b ob v eb db=>k b ob (fun q=>by rw [is b ob eb q,d] at db;cases db) eb,fun b ob es n eb db=>⟨ob,k b ob (fun q=>by rw [is b ob eb q,d] at db;cases db) eb,.refl ob⟩,fun b ob eb=>?_⟩
  · by_cases q:b=a
    · subst q
      rw [e] at eb;cases eb
      exact ⟨_,self,(Obj.cls_mapFields _ _).trans x.1,⟨_,Obj.data_mapFields d f⟩,by obtain ⟨c,dd,dt,sl⟩:=o;cases d;exact x.2.2⟩
    · exact ⟨ob,k b ob q eb,x⟩
  · by_cases q:b=a
    · refine Eq.symm q▸?_;exact ⟨_,self⟩
    · exact ⟨ob,k b ob q eb⟩
theorem Off.slots {S:List Addr} (x:Heap.SlotsOnly S g g') (fr:∀ b∈S,cx.h₀.get? b=none /\ ¬ A1 ρ b /\ ∀ o,g.get? b=some o -> ∃ es n,o.data=.dict es n):Off cx ρ h g g':=by
  have k:∀ b o,b ∉ S -> g.get? b=some o -> g'.get? b=some o:=fun b o n e=>(x.2.1 b n).trans e
  have up:∀ b o,g.get? b=some o -> ∃ o',g'.get? b=some o' /\ Eg o o':=fun b o e=>by
    by_cases m:b∈S
    · obtain ⟨sl,e'⟩:=x.2.2 b o e
      exact ⟨_,e',.inr ⟨(fr b m).2.2 o e,rfl⟩⟩
    · exact ⟨o,k b o m e,.refl o⟩
  refine ⟨fun b o _ e _=>up b o e,fun b o e w=>k b o (fun m=>(fr b m).2.1 w) e,fun b o o0 e e0=>k b o (fun m=>by rw [(fr b m).1] at e0;cases e0) e,fun b o e f=>k b o (fun m=>?_) e,fun b o C e f=>⟨o,k b o (fun m=>?_) e,f⟩,fun b o v e d=>k b o (fun m=>?_) e,fun b o es n e _=>up b o e,fun b o e=>?_⟩
  · refine ex2 ((fr b m).2.2 o e) fun es n d=>?_
    exact f.notDict es n d
  · refine ex2 ((fr b m).2.2 o e) fun es n d=>?_
    exact f.notDict es n d
  · refine ex2 ((fr b m).2.2 o e) fun es n d'=>?_
    rw [d] at d';cases d'
  · refine ex1 (up b o e) fun o' zz=>Ad zz fun e' _=>?_
    exact ⟨o',e'⟩
structure Flown (cx:Cx) (ρ:Rho) (h h':Heap) (c:Nat) (e:Value):Prop where
  is:∃ (a C:Addr) (vs:Array Value) (tb:Addr) (tvs:Array Value),e=.ref a /\ cx.cls[c]?=some (.ref C) /\ h.get? a=none /\ h'.get? a=some { cls:=.ref C,dict:=none,data:=.fields vs,slots:=#[] } /\ vs.size=6 /\ ¬ A1 ρ a /\
    vs[1]?=some (.ref tb) /\ h.get? tb=none /\ h'.get? tb=some { cls:=.type "traceback",dict:=none,data:=.fields tvs,slots:=#[] } /\ tvs.size=11 /\ ¬ A1 ρ tb
theorem Flown.to {c:Nat} {e:Value} (x:Flown cx ρ h g c e):Flying cx ρ h g c e:=by
  refine ex5 x.is fun a C vs tb tvs zz=>Mu zz fun h1 h2 h3 h4 h5 h6 h7=>?_
  exact ⟨a,C,vs,h1,h2,h3,h4,h5,h6,.inr ⟨tb,tvs,h7⟩⟩
theorem Flown.vr {c:Nat} {e:Value} (x:Flown cx ρ h g c e):VR cx ρ g (.exc c) e:=by
  refine ex5 x.is fun a C vs tb tvs zz=>Mu zz fun hr0 h2 h3 h4 h5 h6 _=>?_;refine Eq.symm hr0▸?_
  exact .exc h4 h6 h2 ⟨rfl,⟨_,rfl⟩,rfl⟩
theorem L5 {C:Addr} {vs:Array Value}:¬ Fx { cls:=.ref C,dict:=none,data:=.fields vs,slots:=#[] }:=by
  rintro (⟨q,_⟩ | ⟨q,_⟩) <;> cases q
theorem I1 {vs:Array Value}:¬ Fx { cls:=.type "traceback",dict:=none,data:=.fields vs,slots:=#[] }:=by
  rintro (⟨q,_⟩ | ⟨q,_⟩)
  · exact absurd (show Value.type "traceback"=Value.type "tuple" from q) (by decide)
  · exact absurd (show Value.type "traceback"=Value.type "range" from q) (by decide)
theorem Qt (w:A0 cx l ρ g):g.FunFrames cx.h₀ l:=by
  induction l with
  | nil=>trivial
  | cons env l ih =>
    refine Ah fun G kG=>?_
    refine Ad (w env (.head _)) fun k zz=>ex2 zz fun L o zz=>Fc zz fun h1 h2 h3 zn6 _=>?_;obtain ⟨es,n,h5⟩:=zn6
    refine kG ?_
    exact ⟨k,⟨L,o,h1,h2,h3,fun vs q=>by rw [h5] at q;cases q⟩,ih fun e he=>w e (.tail _ he)⟩
theorem Lb (w:A0 cx l ρ g):∀ b∈l.filterMap (·.frame),cx.h₀.get? b=none /\ ¬ A1 ρ b /\ ∀ o,g.get? b=some o -> ∃ es n,o.data=.dict es n:=fun b hb=>by
  refine Ah fun G kG=>?_
  refine ex1 (List.mem_filterMap.mp hb) fun env zz=>Ad zz fun he hf=>?_
  refine Ad (w env he) fun k zz=>ex2 zz fun L o zz=>Fc zz fun h1 h2 h3 h5 h6=>?_
  refine kG ?_
  rw [h1] at hf;cases hf
  exact ⟨h2,h6,fun o' e'=>by rw [h3] at e';cases e';exact h5⟩
end
section
variable {cx:Cx} {ρ:Rho} {h:Heap} {A:Around} {env:Env} {outer:List Env} {L:Addr} {s:Shared} {Q:Unit -> Shared -> Prop} {E:Value -> Shared -> Prop} {c:Nat} {e:Value} {H:Hp}
theorem Po {a C:Addr} {vs:Array Value} {head:Value} {hn:Bool} (hfr:A.frames=some (env :: outer)) (hf:env.frame=some L) (w:A0 cx (env :: outer) ρ s.heap) (R:Rel cx H ρ s) (lb:Fh cx.h₀ h) (lh:Fh h s.heap) (hC:cx.cls[c]?=some (.ref C)) (ha:h.get? a=none) (ga:s.heap.get? a=some { cls:=.ref C,dict:=none,data:=.fields vs,slots:=#[] }) (hz:vs.size=6) (no:¬ A1 ρ a)
    (k:∀ h',Off cx ρ h s.heap h' -> Flown cx ρ h h' c (.ref a) -> Q () { s with heap:=h' }) :
    wpAny (model cx.prog cx.w) A (do let x <- frameOf env;let pl <- entryPlaceOf L hn;let b <- EntryCells.newEntry head x .none (rawInt L) .none pl;setField (.ref a) 1 b) Q E s:=by
  refine wpAny_bind (wpAny_frameOf_fun hfr (Qt w) hf fun h₁ hs=>?_)
  have o1:Off cx ρ h s.heap h₁:=Off.slots hs (Lb w)
  refine wpAny_bind (wpAny_entryPlaceOf fun pl hpl=>?_)
  unfold EntryCells.newEntry newFields
  refine wpAny_bind (wpAny_newObj_type ?_ (hpl.sizeOk5 _ _ _ _ _))
  have na:a ∉ (env :: outer).filterMap (·.frame):=fun m=>by
    refine ex2 ((Lb w a m).2.2 _ ga) fun es n d=>?_
    cases d
  have ga1:h₁.get? a=some { cls:=.ref C,dict:=none,data:=.fields vs,slots:=#[] }:=(hs.2.1 a na).trans ga
  generalize ht:({ cls:=.type "traceback",dict:=none,data:=.fields ([head,.ref L,.none,rawInt L,.none]++(if pl.isEmpty then List.replicate 6 Value.none else pl)).toArray }:Obj)=t
  have sz:([head,.ref L,.none,rawInt L,.none]++(if pl.isEmpty then List.replicate 6 Value.none else pl)).toArray.size=11:=by
    rcases hpl with rfl | ⟨_,_,_,_,_,_,_,rfl⟩ <;> rfl
  have ga2:(h₁.push t).get? a=some { cls:=.ref C,dict:=none,data:=.fields vs,slots:=#[] }:=Heap.get?_push_of_some t ga1
  refine wpAny_setField ga2 rfl (by exact o19 hz) ?_
  have ne:h₁.objs.size≠a:=Nat.ne_of_gt (Heap.lt_size ga1)
  have gt:(h₁.push t).get? h₁.objs.size=some t:=Heap.get?_push_size h₁ (by rw [<- ht];rfl)
  have R1:Rel cx H ρ { s with heap:=h₁ }:=o1.rel R
  have hb:cx.h₀.get? a=none:=lb.none ha
  have o2:Off cx ρ h s.heap ((h₁.push t).update a (Obj.mapFields (·.setIfInBounds 1 (Value.ref h₁.objs.size)))):=(o1.trans (Off.push t)).trans (Off.upd ga2 rfl ha hb no L5)
  refine k _ o2 ⟨a,C,vs.setIfInBounds 1 (.ref h₁.objs.size),h₁.objs.size,_,rfl,hC,ha,Heap.get?_update_self _ ga2 rfl,by rw [Array.size_setIfInBounds];exact hz,no,?_,?_,((Heap.get?_update_other _ _ (Ne.symm ne)).trans gt).trans (congrArg some ht.symm),sz,R1.fresh_not (Ar h₁)⟩
  · rw [Array.getElem?_setIfInBounds_self_of_lt (by exact o19 hz)]
  · refine lh.none ?_
    rw [hs.1];exact Ar s.heap
theorem Og (hfr:A.frames=some (env :: outer)) (hf:env.frame=some L) (w:A0 cx (env :: outer) ρ s.heap) (R:Rel cx H ρ s) (lb:Fh cx.h₀ h) (lh:Fh h s.heap) (fl:Flying cx ρ h s.heap c e)
    (k:∀ h',Off cx ρ h s.heap h' -> Flown cx ρ h h' c e -> Q () { s with heap:=h' }):wpAny (model cx.prog cx.w) A (noteFrame e env) Q E s:=by
  refine Ah fun G kG=>?_
  refine ex3 fl.is fun a C vs zz=>Mu zz fun zr3 hC ha ga hz no h7=>?_;subst zr3
  refine kG ?_
  unfold noteFrame
  simp only [hf]
  rcases h7 with h1 | ⟨tb,tvs,h1,htb,gtb,hzt,not⟩
  · refine wpAny_bind (wpAny_field ga rfl h1 ?_)
    exact Po hfr hf w R lb lh hC ha ga hz no k
  · refine wpAny_bind (wpAny_field ga rfl h1 ?_)
    obtain ⟨x3,h3⟩:∃ x,tvs[3]?=some x:=⟨_,Array.getElem?_eq_getElem (by exact o20 hzt)⟩
    refine wpAny_bind (wpAny_field gtb rfl h3 ?_)
    by_cases q:(x3 == rawInt L)=true
    · rw [if_pos q]
      exact wpAny_pure (k _ Off.refl ⟨a,C,vs,tb,tvs,rfl,hC,ha,ga,hz,no,h1,htb,gtb,hzt,not⟩)
    · rw [if_neg q]
      refine wpAny_bind (wpAny_setField gtb rfl (by exact o20 hzt) ?_)
      have o1:Off cx ρ h s.heap (s.heap.update tb (Obj.mapFields (·.setIfInBounds 3 Value.none))):=Off.upd gtb rfl htb (lb.none htb) not I1
      have ne:tb≠a:=fun q=>by rw [q,ga] at gtb;exact nomatch gtb
      exact Po (s:={ s with heap:=s.heap.update tb (Obj.mapFields (·.setIfInBounds 3 Value.none)) }) hfr hf (o1.frames w) (o1.rel R) lb (lh.trans o1.live) hC ha ((Heap.get?_update_other _ _ ne).trans ga) hz no fun h' o' fl'=>k h' (o1.trans o') fl'
theorem E4 {fr:Option Addr} (lb:Fh cx.h₀ h) (fl:Flown cx ρ h s.heap c e) (k:∀ h',Off cx ρ h s.heap h' -> Flown cx ρ h h' c e -> Q () { s with heap:=h' }):wpAny (model cx.prog cx.w) A (setFlight e fr) Q E s:=by
  refine Ah fun G kG=>?_
  refine ex5 fl.is fun a C vs tb tvs zz=>V4 zz fun zr5 hC ha ga hz no h1 htb gtb hzt not=>?_;subst zr5
  refine kG ?_
  unfold setFlight
  refine wpAny_bind (wpAny_field ga rfl h1 ?_)
  refine wpAny_setField gtb rfl (by exact o20 hzt) ?_
  have ne:tb≠a:=fun q=>by rw [q,ga] at gtb;exact nomatch gtb
  exact k _ (Off.upd gtb rfl htb (lb.none htb) not I1) ⟨a,C,vs,tb,_,rfl,hC,ha,(Heap.get?_update_other _ _ ne).trans ga,hz,no,h1,htb,Heap.get?_update_self _ gtb rfl,by rw [Array.size_setIfInBounds];exact hzt,not⟩
theorem Qu (hfr:A.frames=some (env :: outer)) (hf:env.frame=some L) (w:A0 cx (env :: outer) ρ s.heap) (R:Rel cx H ρ s) (lb:Fh cx.h₀ h) (lh:Fh h s.heap) (fl:Flying cx ρ h s.heap c e)
    (k:∀ h',Off cx ρ h s.heap h' -> Flown cx ρ h h' c e -> Q () { s with heap:=h' }):wpAny (model cx.prog cx.w) A (leaving env e) Q E s:=by
  unfold leaving
  exact wpAny_bind (Og hfr hf w R lb lh fl fun h1 o1 fl1=>E4 (s:={ s with heap:=h1 }) lb fl1 fun h2 o2 fl2=>k h2 (o1.trans o2) fl2)
theorem Aa2 (lb:Fh cx.h₀ h) (fl:Flown cx ρ h s.heap c e) (k:∀ h',Off cx ρ h s.heap h' -> Flown cx ρ h h' c e -> E e { s with heap:=h' }):cameBackBy (model cx.prog cx.w) A env E e s:=by
  refine Ah fun G kG=>?_
  refine ex5 fl.is fun a C vs tb tvs zz=>V4 zz fun zr5 hC ha ga hz no h1 htb gtb hzt not=>?_;subst zr5
  refine kG ?_
  unfold cameBackBy
  refine wpAny_bind (wpAny_field ga rfl h1 ?_)
  exact E4 lb ⟨a,C,vs,tb,tvs,rfl,hC,ha,ga,hz,no,h1,htb,gtb,hzt,not⟩ fun h' o' fl'=>k h' o' fl'
end
noncomputable def Hm (cx:Cx) (Φ:Funs) (d:Nat):Prop :=
  ∀ (k:Nat) (a:Addr) (args:List Val) (vals:List Value) (A:Around) (l:List Env),cx.fns[k]?=some a -> RoomF A d -> A.frames=some l ->
    Sim cx A ((Amb.vrs cx args vals).and (Amb.frames cx l)) (call (.ref a) vals) (Φ k args) (Amb.vr cx)
section
variable {cx:Cx} {N:Names} {A:Around} {env:Env} {sc:Scope} {ns:List (Option Str)} {Γ:Env'} {Φ:Funs} {d:Nat} {l:List Env}
theorem Base.func (B:Base cx N) {k:Nat} {a:Addr} (hk:cx.fns[k]?=some a) (hd:∃ f,cx.T.funs[k]?=some f):∃ o fd,cx.h₀.get? a=some o /\ o.data=.func fd:=by
  refine Ah fun G kG=>?_
  obtain ⟨f,hf⟩:=hd
  refine ex4 ((B.fns k a f hk hf).is) fun o fd body ns zz=>Cg zz fun e _ d _=>?_
  refine kG ?_
  exact ⟨o,fd,e,d⟩
theorem M8 (B:Base cx N) {f:Nat} (hΦ:∀ a args vals,cx.fns[f]?=some a -> Sim cx A ((Amb.vrs cx args vals).and (Amb.frames cx l)) (call (.ref a) vals) (Φ f args) (Amb.vr cx)) {x:Str} {xs:List Expr} {es:MEs} {np pos:Pos} (hg:B5 sc x=true) (hk:D8 N.funs x f=true) (hex:∃ g,cx.T.funs[f]?=some g) (hes:ckEs N sc ns es xs=true)
    (y:Sim cx A ((Amb.env cx env sc ns Γ).and (Amb.frames cx l)) (spliced (xs.map fun e=>(false,eval e env))) (evalEs cx.T Φ es Γ) (Amb.vrs cx)) :
    Sim cx A ((Amb.env cx env sc ns Γ).and (Amb.frames cx l)) (eval (.Call (.Name x np) xs [] pos) env) (Am cx.T Φ (.call f es) Γ) (Amb.vr cx):=by
  refine Ah fun G kG=>?_
  refine ex2 B.ns fun mg mb zz=>Cg zz fun ng nb q _=>?_
  refine ex1 (q x f (Cw hk)) fun a zz=>Ad zz fun ha hx=>?_
  refine ex2 (B.func ha hex) fun o fd zz=>Ad zz fun ho hd=>?_
  refine kG ?_
  intro H ρ s R p
  refine Gs.mono (Fy (f:=.ref a) (K:=fun vs Q E s=>(s.heap.get? a=some o /\ o.data=.func fd) /\ wpAny (model cx.prog cx.w) A (call (.ref a) vs) Q E s) (fun e=>Fi (e▸hes)) R (y H ρ s R p) ?_ ?_) ?_
  · intro ms vs H1 ρ1 s1 _ F1 R1 vrs
    exact Gs.andK ⟨R1.base _ _ ho,hd⟩ (hΦ a ms vs ha H1 ρ1 s1 R1 ⟨vrs,(Amb.frames cx l).st _ _ _ _ p.2 F1⟩)
  · exact fun vs Q E Q' E' s h k1 k2=>⟨h.1,wpAny_mono h.2 k1 k2⟩
  · intro Q E h
    refine wpAny_Call_ofName (wp_glob R p.1.st hg ng nb (.inl hx) ?_)
    rw [Au pos (B7 hes)]
    exact Calls.callWith_function (o:=o) (fd:=fd) (wpAny_mono h (fun b s₁ h₁=>by rw [h₁.1];exact h₁.2) fun _ _ q=>q)
theorem Ex {α:Type}:∀ {ns:List Str} {vs:List α} {i:Nat} {y:Str} {v:α},ns.Nodup -> ns[i]?=some y -> vs[i]?=some v -> (ns.zip vs).lookup y=some v
  | [],_,_,_,_,_,h,_=>by simp at h
  | _ :: _,[],_,_,_,_,_,h=>by simp at h
  | n :: ns,u :: vs,0,y,v,_,h1,h2=>by simp at h1 h2;subst h1 h2;simp [List.zip_cons_cons]
  | n :: ns,u :: vs,i+1,y,v,nd,h1,h2=>by
    simp at h1 h2
    have ne:(y == n)=false:=by
      have:y∈ns:=List.mem_of_getElem? h1
      simpa using fun e:y=n=>(List.nodup_cons.mp nd).1 (e▸this)
    rw [List.zip_cons_cons,List.lookup_cons,ne]
    exact Ex (List.nodup_cons.mp nd).2 h1 h2
theorem L7:∀ {ns:List Str} {vs:List Value},ns.Nodup -> vs.length=ns.length -> (ns.filterMap fun n=>((ns.zip vs).lookup n).map (n,·))=ns.zip vs:=by
  have gen:∀ (ns:List Str) (vs:List Value) (look:Str -> Option Value),vs.length=ns.length -> (∀ (i:Nat) (y:Str) (v:Value),ns[i]?=some y -> vs[i]?=some v -> look y=some v) -> (ns.filterMap fun n=>(look n).map (n,·))=ns.zip vs:=by
    intro ns
    induction ns with
    | nil=>intro vs look _ _;rfl
    | cons n ns ih =>
      intro vs look hl k
      cases vs with
      | nil=>simp at hl
      | cons v vs =>
        have e:=k 0 n v (by simp) (by simp)
        rw [List.filterMap_cons,e]
        simp only [Option.map_some,List.zip_cons_cons]
        rw [ih vs look (by simpa using hl) fun i y u h1 h2=>k (i+1) y u (by simpa using h1) (by simpa using h2)]
  intro ns vs nd hl
  exact gen ns vs _ hl fun i y v h1 h2=>Ex nd h1 h2
theorem Sz {α:Type} {c:Prop} [Decidable c] {x y r:α} (h:¬ c) (k:y=r):(if c then x else y)=r:=(if_neg h).trans k
theorem Ku {fd:FuncData} {vals:List Value} {names:List Str} (h1:fd.params.posonlyargs=[]) (h2:fd.params.args.map (·.arg)=names) (h3:fd.params.vararg=none) (h4:fd.params.kwonlyargs=[]) (h5:fd.params.kwarg=none) (h6:fd.defaults=.none)
    (nd:names.Nodup) (hl:vals.length=names.length):bindArgs fd ⟨vals,[]⟩=pure (names.zip vals):=by
  have hmiss:∀ k:Nat,((names.take k).filter fun n=>((names.zip vals).lookup n).isNone)=[]:=by
    intro k
    rw [List.filter_eq_nil_iff]
    intro n hn
    obtain ⟨i,hi⟩:=List.mem_iff_getElem?.mp (List.mem_of_mem_take hn)
    have lt:i < vals.length:=by rw [hl];exact (List.getElem?_eq_some_iff.mp hi).1
    rw [Ex nd hi (List.getElem?_eq_getElem lt)]
    simp
  have hf:=L7 nd hl
  obtain ⟨_,_,⟨po,ar,va,kw,kd,ka,de⟩,_,_,_,_,df,_⟩:=fd
  cases h1;cases h3;cases h4;cases h5;cases h6
  subst h2
  refine Sz (fun w=>?_) ?_
  · rw [Bool.and_eq_true] at w
    exact absurd (of_decide_eq_true w.1) (by rw [hl];exact Nat.lt_irrefl _)
  refine Sz (fun w=>?_) ?_
  · have e:=hmiss ((List.map (·.arg) ar).length - (List.drop (0 - (List.map (·.arg) ar).length) ([]:List Value)).length)
    exact Bool.false_ne_true ((congrArg (fun l=>!List.isEmpty l) e).symm.trans w)
  have z:∀ (X:List Str) (n:Nat),X.zip (List.drop n ([]:List Value))=[]:=fun X n=>by rw [List.drop_nil,List.zip_nil_right]
  refine Eq.trans (congrArg (fun (l:List (Str × Value))=>Bind.bind (forIn l _ _) _) (z (List.drop _ (List.map (·.arg) ar)) _)) ?_
  refine Eq.trans ?_ (congrArg pure hf)
  exact congrArg (fun l=>(pure (List.filterMap (fun n=>Option.map (fun x=>(n,x)) (List.lookup n (List.zip (List.map (fun x=>x.arg) ar) vals))) l):Sem (List (Str × Value)))) (List.append_nil _)
set_option tactic.hygienic true in
theorem E5:∀ {names:List (Str × NameKind)} {n:Nat} {acc:List (Str × Addr)} {y:Str},((y,NameKind.cell)∈names \/ (acc.lookup y).isSome=true) -> ((cellsFrom n names acc).lookup y).isSome=true
  | [],_,_,_,h=>by
    rcases h with h | h
    · cases h
    · exact h
  | (z,k) :: r,n,acc,y,h=>by
    unfold cellsFrom
    split
    · rename_i hk
      refine E5 ?_
      rcases h with h | h
      · rcases List.mem_cons.mp h with e | h
        · cases e;right;simp
        · exact .inl h
      · right
        rw [List.lookup_cons]
        split
        · rfl
        · exact h
    · rename_i hk
      refine E5 ?_
      rcases h with h | h
      · rcases List.mem_cons.mp h with e | h
        · cases e;simp at hk
        · exact .inl h
      · exact .inr h
theorem S0 {kd:Str -> Option NameKind}:∀ {binds:List (Str × Value)} {m:Str -> Option Value} {y:Str} {v:Value},(binds.map (·.1)).Nodup -> (y,v)∈binds -> kd y=some .local -> bindL kd binds m y=some v:=by
  have keep:∀ (binds:List (Str × Value)) (m:Str -> Option Value) (y:Str),y ∉ binds.map (·.1) -> bindL kd binds m y=m y:=by
    intro binds
    induction binds with
    | nil=>intro m y _;rfl
    | cons b r ih =>
      intro m y hy
      obtain ⟨n,v⟩:=b
      simp only [List.map_cons,List.mem_cons,not_or] at hy
      unfold bindL
      rw [ih _ _ hy.2]
      split
      · simp [hy.1]
      · rfl
  intro binds
  induction binds with
  | nil=>intro m y v _ h _;cases h
  | cons b r ih =>
    intro m y v nd h hk
    obtain ⟨n,u⟩:=b
    rw [List.map_cons,List.nodup_cons] at nd
    unfold bindL
    rcases List.mem_cons.mp h with e | h
    · cases e
      rw [keep _ _ _ nd.1,if_pos hk]
      simp
    · exact ih nd.2 h hk
theorem S1 {kd:Str -> Option NameKind}:∀ {binds:List (Str × Value)} {m:Str -> Option Value} {y:Str} {v:Value},(binds.map (·.1)).Nodup -> (y,v)∈binds -> kd y≠some .local -> bindC kd binds m y=some v:=by
  have keep:∀ (binds:List (Str × Value)) (m:Str -> Option Value) (y:Str),y ∉ binds.map (·.1) -> bindC kd binds m y=m y:=by
    intro binds
    induction binds with
    | nil=>intro m y _;rfl
    | cons b r ih =>
      intro m y hy
      obtain ⟨n,v⟩:=b
      simp only [List.map_cons,List.mem_cons,not_or] at hy
      unfold bindC
      rw [ih _ _ hy.2]
      split
      · rfl
      · simp [hy.1]
  intro binds
  induction binds with
  | nil=>intro m y v _ h _;cases h
  | cons b r ih =>
    intro m y v nd h hk
    obtain ⟨n,u⟩:=b
    rw [List.map_cons,List.nodup_cons] at nd
    unfold bindC
    rcases List.mem_cons.mp h with e | h
    · cases e
      rw [keep _ _ _ nd.1,if_neg hk]
      simp
    · exact ih nd.2 h hk
noncomputable def Y5 (cx:Cx) (N:Names) (Φ:Funs) (d:Nat):Prop :=
  ∀ (body:MSs) (stmts:List Stmt) (env:Env) (sc:Scope) (ns:List (Option Str)) (A:Around) (l:List Env),ckSs N sc ns body stmts=true -> (∀ (i j:Nat) (y:Str),ns[i]?=some (some y) -> ns[j]?=some (some y) -> i=j) -> Room A d -> A.frames=some (env :: l) ->
    env.frame=some env.locals -> Gz cx A (env :: l) env sc ns (execs stmts env) (execSs cx.T Φ body)
theorem Gj:∀ {ns:List (Option Str)},I0 ns=true -> ∀ (i j:Nat) (y:Str),ns[i]?=some (some y) -> ns[j]?=some (some y) -> i=j
  | [],_,i,_,_,h,_=>by simp at h
  | none :: r,nd,i,j,y,h1,h2=>by
    cases i with
    | zero=>simp at h1
    | succ i=>cases j with
      | zero=>simp at h2
      | succ j=>simp at h1 h2;rw [Gj (by simpa [I0] using nd) i j y h1 h2]
  | some x :: r,nd,i,j,y,h1,h2=>by
    simp only [I0,Bool.and_eq_true,Bool.not_eq_true',List.contains_eq_mem,decide_eq_false_iff_not] at nd
    cases i with
    | zero =>
      cases j with
      | zero=>rfl
      | succ j =>
        simp at h1 h2
        subst h1
        exact absurd (List.mem_of_getElem? h2) nd.1
    | succ i =>
      cases j with
      | zero =>
        simp at h1 h2
        subst h2
        exact absurd (List.mem_of_getElem? h1) nd.1
      | succ j =>
        simp at h1 h2
        rw [Gj nd.2 i j y h1 h2]
theorem M9 {ns:List Str} (h:∀ (i j:Nat) (y:Str),(ns.map some)[i]?=some (some y) -> (ns.map some)[j]?=some (some y) -> i=j):ns.Nodup:=by
  refine List.pairwise_iff_getElem.mpr fun i j hi hj lt e=>?_
  have:=h i j ns[i] (by rw [List.getElem?_map,List.getElem?_eq_getElem hi];rfl) (by rw [List.getElem?_map,List.getElem?_eq_getElem hj,e];rfl)
  exact o21 lt this
theorem S2 {f:MFun} {names:List Str} {params:Arguments} {body:List Stmt} {sc:Scope} (h:ckF N f names params body sc=true) :
    f.arity+f.nvars=names.length /\ names.take f.arity=params.args.map (·.arg) /\ params.posonlyargs=[] /\ params.vararg=none /\ params.kwonlyargs=[] /\ params.kwarg=none /\ I0 (names.map some)=true /\
      sc.isCoroutine=false /\ sc.isGenerator=false /\ sc.kind=.function /\ ckSs N sc (names.map some) f.body body=true /\
      (∀ p∈sc.names,p.2=.cell -> sc.names.lookup p.1=some .cell) /\ (∀ p∈sc.names,p.2≠.free) /\ (∀ y∈names.take f.arity,sc.names.lookup y=some .local \/ sc.names.lookup y=some .cell):=by
  have h2:=an2 h
  have h3:=an2 h2
  have h4:=an2 h3
  have h5:=an2 h4
  have h6:=an2 h5
  have h7:=an2 h6
  have h8:=an2 h7
  have h9:=an2 h8
  have h10:=an2 h9
  have h11:=an2 h10
  have h12:=an2 h11
  exact ⟨of_decide_eq_true (an1 h),of_decide_eq_true (an1 h2),List.isEmpty_iff.mp (an1 h3),Option.isNone_iff_eq_none.mp (an1 h4),List.isEmpty_iff.mp (an1 h5),Option.isNone_iff_eq_none.mp (an1 h6),an1 h7,not_not (an1 h8),not_not (an1 h9),of_decide_eq_true (an1 h10),an1 h11,
    fun p hp hc=>(of_decide_eq_true (an1 (List.all_eq_true.mp (an1 h12) p hp))).trans (congrArg some hc),fun p hp=>of_decide_eq_false (not_not (an2 (List.all_eq_true.mp (an1 h12) p hp))),fun y hy=>Sf (List.all_eq_true.mp (an2 h12) y hy)⟩
theorem Room.deeper {d:Nat} (r:RoomF A (d+1)) (env:Env):Room (A.deeper env) d:=⟨r.hh,by have:=r.depth;show A.depth+1+_+_ < _;exact o22 this,by have:=r.units;show A.units+3+_+_ < _;exact o23 this⟩
theorem Na (B:Base cx N) {k:Nat} {a:Addr} {args:List Val} {vals:List Value} (hk:cx.fns[k]?=some a) (room:RoomQ A (d+1)) (hfr:A.frames=some l)
    (hb:∀ (f:MFun) (stmts:List Stmt) (env:Env) (sc:Scope) (ns:List (Option Str)),cx.T.funs[k]?=some f -> ckSs N sc ns f.body stmts=true -> (∀ (i j:Nat) (y:Str),ns[i]?=some (some y) -> ns[j]?=some (some y) -> i=j) -> (A.deeper env).frames=some (env :: l) -> env.frame=some env.locals ->
      Gz cx (A.deeper env) (env :: l) env sc ns (execs stmts env) (execSs cx.T (Af cx.T d) f.body)) :
    Sim cx A ((Amb.vrs cx args vals).and (Amb.frames cx l)) (call (.ref a) vals) (Af cx.T (d+1) k args) (Amb.vr cx):=by
  intro H ρ s R ⟨vrs,fok⟩
  rw [Qm]
  cases hf:cx.T.funs[k]? with
  | none=>trivial
  | some f =>
    show Bg cx A (if args.length=f.arity then Aac (execSs cx.T (Af cx.T d) f.body (args.map some++List.replicate f.nvars none) H) else .bad) _ _ ρ s
    by_cases hl:args.length=f.arity
    · rw [if_pos hl]
      refine Ah fun G kG=>?_
      refine ex4 ((B.fns k a f hk hf).is) fun o fd body names zz=>V4 zz fun ho hoc hdata hcd hbody hclo hglob hblt hdf hkd hck=>?_
      refine Afq (S2 hck) fun c1 c2 c3 c4 c5 c6 c7 c8 c9 c10 c11 c12 c13 c14=>?_
      refine kG ?_
      have nd:=Gj c7
      have nds:names.Nodup:=M9 nd
      have ndt:(names.take f.arity).Nodup:=nds.sublist (List.take_sublist _ _)
      have vlen:vals.length=(names.take f.arity).length:=by rw [List.length_take,<- vrs.length,hl];exact o24 c1
      have hbind:bindArgs fd ⟨vals,[]⟩=pure ((names.take f.arity).zip vals):=Ku c3 c2.symm c4 c5 c6 hdf ndt vlen
      have hkind:∀ x∈(names.take f.arity).zip vals,fd.scope.names.lookup x.1=some .local \/ (fd.scope.names.lookup x.1=some .cell /\ ((cellsFrom (s.heap.objs.size+1) fd.scope.names []).lookup x.1).isSome=true):=by
        intro x hx
        rcases c14 x.1 (List.of_mem_zip hx).1 with h | h
        · exact .inl h
        · exact .inr ⟨h,E5 (.inl (mem_of_lookup h))⟩
      generalize henv:callEnvC fd s.heap.objs.size a=env
      have eloc:env.locals=s.heap.objs.size:=by rw [<- henv];rfl
      have escope:env.scope=fd.scope:=by rw [<- henv];rfl
      have ecells:env.cells=cellsFrom (s.heap.objs.size+1) fd.scope.names []:=by rw [<- henv];rfl
      have egl:env.globals=mainGlobals:=by rw [<- henv];exact hglob
      have ebl:env.builtins=builtinsNs:=by rw [<- henv];exact hblt
      have efr:env.frame=some env.locals:=by rw [<- henv];rfl
      have ekind:∀ y,env.kindOf y=fd.scope.names.lookup y:=fun y=>by unfold Env.kindOf;rw [escope]
      -- the body
      have main:∀ s₁,InCallC s env.locals (bindL env.kindOf ((names.take f.arity).zip vals) fun _=>none) env.cells (bindC env.kindOf ((names.take f.arity).zip vals) fun _=>none) s₁ ->
          Full ρ s.heap ρ s₁.heap /\ Cn cx (A.deeper env) env fd.scope (names.map some) (execSs cx.T (Af cx.T d) f.body (args.map some++List.replicate f.nvars none) H) (execs body env) ρ s₁:=by
        intro s₁ x
        have hkeep:=x.toInCall.keep
        have F0:Full ρ s.heap ρ s₁.heap:=Full.more hkeep
        refine ex2 x.toInCall.same fun h₁ tk e1=>?_
        have R1:Rel cx H ρ s₁:=by rw [e1] at hkeep ⊢;exact R.more hkeep
        have locfresh:s.heap.get? env.locals=none:=by rw [eloc];exact Ar _
        have lvB:Fh cx.h₀ s.heap:=fun b o e=>⟨o,R.base b o e⟩
        have cfresh:∀ y c,env.cells.lookup y=some c -> s.heap.get? c=none:=fun y c hc=>Hh (by have:=x.above y c (mem_of_lookup hc);rw [eloc] at this;exact Nat.le_of_lt this)
        have cellFacts:∀ y c,env.cells.lookup y=some c -> s₁.heap.IsCell c (bindC env.kindOf ((names.take f.arity).zip vals) (fun _=>none) y):=fun y c hc=>x.cell y c hc
        have eok:EnvOk cx env fd.scope (names.map some) (args.map some++List.replicate f.nvars none) ρ s₁.heap:=by
          refine ⟨⟨by rw [escope];exact c10,egl,ebl,fun y kd hy=>?_,⟨_,x.toInCall.ns⟩,R.fresh_not locfresh,lvB.none locfresh,fun y c hc=>⟨⟨_,cellFacts y c hc⟩,R.fresh_not (cfresh y c hc),lvB.none (cfresh y c hc)⟩,fun y hy=>?_,fun y z c hy hz=>name_of_addr x.apart (mem_of_lookup hy) (mem_of_lookup hz)⟩,by rw [List.length_append,List.length_map,List.length_replicate,List.length_map,hl];exact c1,?_⟩
          · rw [ekind,hy]
            cases kd <;> first | rfl | exact .inl rfl | trivial
          · rcases hy with hy | hy
            · rw [ecells]
              exact Option.isSome_iff_exists.mp (E5 (.inl (mem_of_lookup hy)))
            · exact absurd rfl (c13 _ (mem_of_lookup hy))
          · intro i y mv hi hm
            have hi':names[i]?=some y:=by rw [List.getElem?_map] at hi;cases q:names[i]? <;> rw [q] at hi <;> simp at hi;rw [hi]
            by_cases lt:i < f.arity
            · have ha:args[i]?=some mv:=by
                rw [List.getElem?_append_left (by rw [List.length_map,hl];exact lt),List.getElem?_map] at hm
                cases q:args[i]? <;> rw [q] at hm <;> simp at hm
                rw [hm]
              refine ex1 (vrs.get ha) fun v zz=>Ad zz fun ev vr=>?_
              have et:(names.take f.arity)[i]?=some y:=by rw [List.getElem?_take,if_pos lt];exact hi'
              have mem:(y,v)∈(names.take f.arity).zip vals:=by
                refine List.mem_iff_getElem?.mpr ⟨i,?_⟩
                rw [List.getElem?_zip_eq_some];exact ⟨et,ev⟩
              have ndz:(((names.take f.arity).zip vals).map (·.1)).Nodup:=by
                rw [List.map_fst_zip (by rw [vlen];exact Nat.le_refl _)];exact ndt
              refine ⟨v,?_,vr.step F0.step⟩
              rcases c14 y (List.mem_of_getElem? et) with h | h
              · exact .inl ⟨by rw [ekind];exact h,_,x.toInCall.ns,S0 ndz mem (by rw [ekind];exact h)⟩
              · obtain ⟨c,hc⟩:=Option.isSome_iff_exists.mp (E5 (n:=s.heap.objs.size+1) (acc:=[]) (.inl (mem_of_lookup h)))
                rw [<- ecells] at hc
                have:=cellFacts y c hc
                rw [S1 ndz mem (by rw [ekind,h];simp)] at this
                exact .inr ⟨.inl (by rw [ekind];exact h),c,hc,this⟩
            · exfalso
              rw [List.getElem?_append_right (by rw [List.length_map,hl];exact o25 c1 lt),List.getElem?_replicate] at hm
              split at hm <;> simp at hm
        refine ⟨F0,hb f body env fd.scope (names.map some) hf c11 nd (by show A.frames.map (env :: ·)=_;rw [hfr];rfl) efr _ H ρ s₁ R1 eok ?_⟩
        · intro e he
          rcases List.mem_cons.mp he with rfl | he
          · refine Ah fun G kG=>?_
            refine ex3 x.toInCall.ns fun o' es ep zz=>Av zz fun eo' d' _=>?_
            refine kG ?_
            exact ⟨by rw [escope,c10];simp,e.locals,o',efr,lvB.none locfresh,eo',⟨_,_,d'⟩,R.fresh_not locfresh⟩
          · exact (fok.full F0) e he
      -- what stands of the caller's heap
      have back:∀ {s₁ ρ' h'},Full ρ s.heap ρ s₁ -> FullS env ρ s₁ ρ' h' -> (∀ y c,env.cells.lookup y=some c -> s.heap.get? c=none) -> Full ρ s.heap ρ' h':=by
        intro s₁ ρ' h' F0 F1 cf
        refine ⟨?_,fun b ob e n=>?_,F0.live.trans F1.live⟩
        · exact F0.grow.trans F1.grow F0.live
        · refine Ah fun G kG=>?_
          refine ex1 (F0.keep b ob e n) fun o1 zz=>Ad zz fun e1 u1=>?_
          refine ex1 (F1.keep b o1 e1 n (fun q=>by rw [q,eloc,Ar] at e;exact nomatch e) (fun y q=>by rw [cf y b q] at e;cases e)) fun o2 zz=>Ad zz fun e2 u2=>?_
          refine kG ?_
          exact ⟨o2,e2,u1.trans u2⟩
      have cf:∀ y c,env.cells.lookup y=some c -> s.heap.get? c=none:=fun y c hc=>by
        refine Hh ?_
        have ok:=cellsFrom_ok fd.scope.names (s.heap.push { cls:=.type "frame",data:=.dict #[] }) (s.heap.objs.size+1) [] ⟨fun _ _ hm=>(nomatch hm),List.Pairwise.nil⟩ (by rw [Heap.size_push];exact Nat.le_refl _)
        rw [Heap.size_push] at ok
        rw [ecells] at hc
        exact Nat.le_of_succ_le (ok.empty y c (mem_of_lookup hc)).2
      have hlim:s.heap.NoLimit:=B.lim.keeps R.base
      have hcd':s.heap.CodeRec fd.code fd.qualname:=hcd.keeps R.base
      generalize hres:execSs cx.T (Af cx.T d) f.body (args.map some++List.replicate f.nvars none) H=res at main
      cases res with
      | bad=>trivial
      | next Γ' H' =>
        refine wpAny_call (codeAny_call_cells (by have:=room.depth;exact o26 this) (R.base _ _ ho) hdata hlim hcd' hbody hbind hclo hkind (fun s₁ x=>?_) c8 c9 c10)
        rw [henv] at x ⊢
        obtain ⟨F0,sim⟩:=main s₁ x
        exact wpAny_mono sim (fun fl s' ⟨h1,ρ',F1,R',_⟩=>by refine Eq.symm h1▸?_;exact ⟨ρ',back F0 F1 cf,R',.none⟩) fun _ _ q=>q.elim
      | ret v H' =>
        refine wpAny_call (codeAny_call_cells (by have:=room.depth;exact o26 this) (R.base _ _ ho) hdata hlim hcd' hbody hbind hclo hkind (fun s₁ x=>?_) c8 c9 c10)
        rw [henv] at x ⊢
        obtain ⟨F0,sim⟩:=main s₁ x
        exact wpAny_mono sim (fun fl s' ⟨v',ρ',h1,F1,R',vr⟩=>by refine Eq.symm h1▸?_;exact ⟨ρ',back F0 F1 cf,R',vr.1⟩) fun _ _ q=>q.elim
      | exc c Γ' H' =>
        refine wpAny_call (codeAny_call_cells (by have:=room.depth;exact o26 this) (R.base _ _ ho) hdata hlim hcd' hbody hbind hclo hkind (fun s₁ x=>?_) c8 c9 c10)
        rw [henv] at x ⊢
        obtain ⟨F0,sim⟩:=main s₁ x
        refine wpAny_mono sim (fun _ _ q=>q.elim) fun e s' ⟨ρ',F1,R',e0,fl⟩=>?_
        have w:A0 cx (env :: l) ρ' s'.heap:=fun en he=>by
          rcases List.mem_cons.mp he with rfl | he
          · refine Ah fun G kG=>?_
            refine ex1 e0.st.loc fun m zz=>ex3 zz fun o' es ep zz=>Av zz fun eo' d' _=>?_
            refine kG ?_
            exact ⟨by rw [e0.st.fn];simp,en.locals,o',efr,e0.st.locB,eo',⟨_,_,d'⟩,e0.st.locN⟩
          · exact (fok.full (back F0 F1 cf)) en he
        exact Qu (by show A.frames.map (env :: ·)=_;rw [hfr];rfl) efr w R' (fun b o e=>F0.live b o (R.base b o e)) F1.live fl fun h' o' fl'=>⟨ρ',back F0 (o'.fullS F1) cf,o'.rel R',fl'.to.older F0.live⟩
    · rw [if_neg hl];trivial
theorem Hm.step (B:Base cx N) (hb:Y5 cx N (Af cx.T d) d):Hm cx (Af cx.T (d+1)) (d+1) :=
  fun k a args vals A l hk room hfr=>Na B hk room.q hfr fun f stmts env sc ns _ h1 h2 h3 h4=>hb f.body stmts env sc ns (A.deeper env) l h1 h2 (Room.deeper room env) h3 h4
end
inductive ItOk (cx:Cx) (xs:List Val) (I:Addr) (i:Nat) (ρ:Rho) (h:Heap):Option Nat -> Prop
  | list {l:Nat} {p:Addr × Addr}:ρ[l]?=some p -> h.IsListIter I p.1 i -> ItOk cx xs I i ρ h (some l)
  | rng {n:Int}:xs=(List.range n.toNat).map (fun (k:Nat)=>Val.int (k:Int)) -> IsRangeIter h I (i:Nat) ((n.toNat:Int) - (i:Nat)) 1 -> ItOk cx xs I i ρ h none
noncomputable def L9 (o:Obj):Prop:=(∃ vs,o.data=.fields vs) /\ ∃ n,o.cls=.type n /\ n≠"range"
theorem L9.not {o:Obj} (x:L9 o):¬ Fx o /\ ∀ C,¬ Dq o C:=by
  refine Ah fun G kG=>?_
  refine Ad x fun zn0 zz=>ex1 zz fun n zz=>Ad zz fun c ne=>?_;obtain ⟨vs,d⟩:=zn0
  refine kG ?_
  refine ⟨fun f=>?_,fun C f=>?_⟩
  · rcases f with ⟨_,xs,k,f⟩ | ⟨f,_⟩
    · rw [d] at f;cases f
    · rw [c] at f;cases f;exact ne rfl
  · rw [f.1] at c;cases c
theorem L9.notDict {o:Obj} (x:L9 o) (es:Array DictEntry) (n:Nat):o.data≠.dict es n:=by
  obtain ⟨⟨vs,d⟩,_⟩:=x
  rw [d];exact fun q=>nomatch q
theorem L9.notCell {o:Obj} (x:L9 o) (v:Option Value):o.data≠.cell v:=by
  obtain ⟨⟨vs,d⟩,_⟩:=x
  rw [d];exact fun q=>nomatch q
theorem E6 {vs:List Value} {n:Nat}:¬ Fx (B1 vs n) /\ ∀ C,¬ Dq (B1 vs n) C:=by
  refine ⟨fun f=>?_,fun C f=>by cases f.1⟩
  rcases f with ⟨f,_⟩ | ⟨f,_⟩
  · exact absurd (Value.type.inj f) (by decide)
  · exact absurd (Value.type.inj f) (by decide)
section
variable {cx:Cx} {A:Around} {xs:List Val} {I:Addr} {i:Nat} {ρ ρ':Rho} {s:Shared} {H:Hp} {src:Option Nat}
theorem ItOk.step {h h':Heap} (x:ItOk cx xs I i ρ h src) (st:Step ρ h ρ' h') (k:∀ o,h.get? I=some o -> h'.get? I=some o):ItOk cx xs I i ρ' h' src:=by
  cases x with
  | list hp hi=>exact .list (st.get hp) (hi.at k)
  | rng e hi=>exact .rng e (k _ hi)
theorem ItOk.obj {h:Heap} (x:ItOk cx xs I i ρ h src):∃ o,h.get? I=some o /\ L9 o:=by
  cases x with
  | list hp hi=>refine ex1 hi fun o zz=>Av zz fun e c d=>?_;exact ⟨o,e,⟨_,d⟩,_,c,by decide⟩
  | rng e hi=>exact ⟨_,hi,⟨_,rfl⟩,_,rfl,by decide⟩
theorem Ig {v:Val} {w:Value} (R:Rel cx H ρ s) (vr:VR cx ρ s.heap v w) (e:Cr v H=some (xs,src)) {Q:Value -> Shared -> Prop} {E:Value -> Shared -> Prop}
    (k:∀ o,(s.heap.push o).get? s.heap.objs.size=some o -> ItOk cx xs s.heap.objs.size 0 ρ (s.heap.push o) src -> Q (.ref s.heap.objs.size) { s with heap:=s.heap.push o }) :
    wpAny (model cx.prog cx.w) A (pyIter w) Q E s:=by
  have P:=fun o=>Full.push ρ s.heap o
  cases vr with
  | @loc l p hp =>
    · obtain ⟨hl,e⟩:=Wb e
      refine Ah fun G kG=>?_
      refine ex2 (R.listAt hl hp) fun vs n zz=>Cg zz fun _ g r z=>?_
      refine kG ?_
      subst e
      refine wpAny_pyIter_list (items:=vs.toArray) ⟨_,g,rfl,n,rfl⟩ (k _ (Heap.get?_push_size _ rfl) (.list hp ⟨_,Heap.get?_push_size _ rfl,rfl,rfl⟩))
  | @rng a n t u v g no z1 z2 =>
    cases e
    refine wpAny_pyIter_range g (small_one (by omega) (by omega) z1 z2) (k _ (Heap.get?_push_size _ rfl) (.rng rfl ?_))
    have e1:Builtin.Range.rangeSize 0 n 1=((n.toNat:Nat):Int):=by rw [rangeSize_one];split <;> omega
    rw [e1]
    simpa using Heap.get?_push_size s.heap (o:={ cls:=.type "range_iterator",data:=.fields #[rawInt 0,rawInt (n.toNat:Int),rawInt 1] }) rfl
  | _=>exact Ae e
theorem Jz (R:Rel cx H ρ s) (x:ItOk cx xs I i ρ s.heap src) (ck:chk src xs H=true) {m:Val} (hm:xs[i]?=some m) {Q:Option Value -> Shared -> Prop} {E:Value -> Shared -> Prop}
    (k:∀ v h' tk,Heap.SameBut I s.heap h' -> (∃ o,h'.get? I=some o) -> (∀ st:Step ρ s.heap ρ h',VR cx ρ h' m v /\ ItOk cx xs I (i+1) ρ h' src) -> Q (some v) { s with heap:=h',toks:=tk }) :
    wpAny (model cx.prog cx.w) A (pyNext (.ref I)) Q E s:=by
  cases x with
  | @list l p hp hi =>
    · refine Ah fun G kG=>?_
      refine ex2 (R.listAt (Yt ck) hp) fun vs n zz=>Cg zz fun _ g r z=>?_
      refine ex1 (r.get hm) fun v zz=>Ad zz fun ev vr=>?_
      refine kG ?_
      exact wpAny_pyNext_list_item (items:=vs.toArray) hi ⟨_,g,rfl,n,rfl⟩ (by simpa using ev) fun h' hi' hs=>k v h' s.toks hs (by refine ex1 hi' fun o zz=>Ad zz fun e _=>?_;exact ⟨o,e⟩) fun st=>⟨vr.step st,.list hp hi'⟩
  | @rng n e hi =>
    subst e
    have lt:i < n.toNat:=by
      have:=(List.getElem?_eq_some_iff.mp hm).1
      simpa using this
    have hm':m=.int (i:Int):=by
      rw [List.getElem?_map,List.getElem?_range lt] at hm
      simpa using hm.symm
    subst hm'
    refine wpAny_pyNext_range_item hi (by exact o27 lt) fun h' hi' hs=>k _ h' _ hs ⟨_,hi'⟩ fun st=>⟨.int _ _,.rng rfl ?_⟩
    have e1:((i+1:Nat):Int)=(i:Int)+1:=by exact o28
    have e2:((n.toNat:Int) - ((i+1:Nat):Int))=(n.toNat:Int) - (i:Int) - 1:=by exact o29
    rw [e1,<- e1,e2]
    exact hi'
theorem iter_end (hh:A.handled=none) (R:Rel cx H ρ s) (x:ItOk cx xs I i ρ s.heap src) (ck:chk src xs H=true) (hm:xs[i]?=none) {Q:Option Value -> Shared -> Prop} {E:Value -> Shared -> Prop}
    (k:∀ h' tk,Heap.ExtBut I s.heap h' -> Q none { s with heap:=h',toks:=tk }):wpAny (model cx.prog cx.w) A (pyNext (.ref I)) Q E s:=by
  cases x with
  | @list l p hp hi =>
    · refine Ah fun G kG=>?_
      refine ex2 (R.listAt (Yt ck) hp) fun vs n zz=>Cg zz fun _ g r z=>?_
      refine kG ?_
      have len:=r.length
      refine wpAny_pyNext_list_end (items:=vs.toArray) hh hi ⟨_,g,rfl,n,rfl⟩ ?_ fun h' he=>k h' s.toks he
      rw [List.getElem?_eq_none_iff] at hm
      simp;exact o30 len hm
  | @rng n e hi =>
    subst e
    rw [List.getElem?_eq_none_iff] at hm
    simp at hm
    exact wpAny_pyNext_range_end hh hi (by exact o31 hm) fun h' he=>k h' s.toks he
end
section
variable {cx:Cx} {A:Around} {P:Amb} {xs:List Val} {ρ:Rho} {H:Hp} {src:Option Nat}
noncomputable abbrev leastFrom (ys:List Val) (m:Val):Option Val:=ys.foldl (fun m y=>m.bind fun m=>(N3 Gp y m).map fun b=>if b=true then y else m) (some m)
end
theorem Bj {α β γ:Type} (m:M α) (f:α -> M β) (g:β -> M γ):(m.bnd f).bnd g=m.bnd fun x=>(f x).bnd g:=by
  funext H
  unfold M.bnd
  cases m H <;> rfl
section
variable {α β:Type} {cx:Cx} {A:Around} {P:Amb} {t:Sem α} {m:M β} {V:β -> α -> Amb}
theorem Sim.relse {vs keep:List Value} {k:Unit -> Sem α} (x:Sim cx A P (k ()) m V):Sim cx A P (release vs keep>>=k) m V:=x.pre fun _ _ _ h=>wpAny_bind (wpAny_release h)
theorem Sim.oper {t:Sem Value} {V:β -> Value -> Amb} {vs:List Value} (x:Sim cx A P t m V):Sim cx A P (operate vs t) m V:=x.pre fun _ _ _ h=>fun Γ p hΓ=>by
  rw [Sem.wp_operate];exact h Γ p hΓ
theorem Sim.of_eq {t':Sem α} (e:t'=t) (x:Sim cx A P t m V):Sim cx A P t' m V:=e▸x
theorem Sim.of_m {m':M β} (e:m'=m) (x:Sim cx A P t m V):Sim cx A P t m' V:=e▸x
noncomputable abbrev BV:Bool -> Bool -> Amb:=fun b b'=>Amb.prop (b'=b)
end
section
variable {cx:Cx} {A:Around} {P:Amb} {env:Env} {Φ:Funs} {Γ:Env'}
structure EOk (cx:Cx) (A:Around) (P:Amb) (Φ:Funs) (env:Env) (Γ:Env') (m:ME) (e:Expr):Prop where
  val:Sim cx A P (eval e env) (Am cx.T Φ m Γ) (Amb.vr cx)
  tru:Sim cx A P (isTrue e env (eval e env)) ((Am cx.T Φ m Γ).bnd C8) BV
theorem G0 {a:Val} {v:Value}:Sim cx A (P.and (Amb.vr cx a v)) (truthy v) (C8 a) BV:=Qq fun _ _ p=>p.2
theorem EOk.of {m:ME} {e:Expr} (x:Sim cx A P (eval e env) (Am cx.T Φ m Γ) (Amb.vr cx)) (h:isTrue e env (eval e env)=(do let v <- eval e env;standAt e.pos;holding [v] (truthy v))):EOk cx A P Φ env Γ m e :=
  ⟨x,Sim.of_eq h (x.bind fun b a=>Sim.stand (Sim.holding G0))⟩
theorem Sim.and1 {α β:Type} {t:Sem α} {m:M β} {V:β -> α -> Amb} {Q:Amb} (x:Sim cx A P t m V):Sim cx A (P.and Q) t m V:=x.weak fun _ _ p=>p.1
theorem S3 {op:BOp} {o:Operator} {a b:ME} {l r:Expr} {pos:Pos} (ho:Afm op o=true) (x:EOk cx A P Φ env Γ a l) (y:EOk cx A P Φ env Γ b r):EOk cx A P Φ env Γ (.bin op a b) (.BinOp l o r pos):=by
  refine EOk.of ?_ rfl
  exact x.val.bind fun x1 v=>(Sim.holding y.val.and1).bind fun y1 w=>Sim.stand (Sim.oper (Aam ho (fun _ _ p=>p.1.2) fun _ _ p=>p.2))
theorem Aa3 {a:ME} {l:Expr} {pos:Pos} (x:EOk cx A P Φ env Γ a l):EOk cx A P Φ env Γ (.neg a) (.UnaryOp .USub l pos):=by
  refine EOk.of ?_ rfl
  exact x.val.bind fun x1 v=>Sim.stand (Sim.holding (Aan fun _ _ p=>p.2))
theorem Aa4 {a:ME} {l:Expr} {pos:Pos} (x:EOk cx A P Φ env Γ a l):EOk cx A P Φ env Γ (.not a) (.UnaryOp .Not l pos):=by
  refine ⟨?_,?_⟩
  · skip
    exact x.val.bind fun x1 v=>Sim.stand (Sim.holding (Aao fun _ _ p=>p.2))
  · rw [arm_isTrue_UnaryOp,Adl]
    refine Sim.of_m (m:=((Am cx.T Φ a Γ).bnd C8).bnd fun b=>M.ret (!b)) ?_ (x.tru.bind fun b b'=>Sim.ret fun ρ h p=>?_)
    · rw [Bj,Bj]
      congr 1;funext x1
      rw [Bj]
      congr 1
    · have:b'=b:=p.2
      show (!b')=!b
      rw [this]
theorem Aa5 {α:Type} (m:M α):(m.bnd fun b=>M.ret b)=m:=by
  funext H
  unfold M.bnd
  cases m H <;> rfl
noncomputable def Vy (cx:Cx) (A:Around) (P:Amb) (Φ:Funs) (env:Env) (Γ:Env') (op:BoolOp) (pos:Pos) (m:ME) (ys:List Expr):Prop :=
  Sim cx A P (boolOp pos op (evalEach ys env)) (Am cx.T Φ m Γ) (Amb.vr cx) /\ Sim cx A P (allTrue op ys env) ((Am cx.T Φ m Γ).bnd C8) BV
theorem Vy.one {op:BoolOp} {pos:Pos} {m:ME} {y:Expr} (x:EOk cx A P Φ env Γ m y):Vy cx A P Φ env Γ op pos m [y]:=by
  refine ⟨x.val,?_⟩
  refine Sim.of_m (Aa5 _).symm (x.tru.bind fun b b'=>?_)
  intro H ρ s R p
  have e:b'=b:=p.2
  subst e
  cases op <;> cases b' <;> exact wpAny_pure ⟨ρ,Full.refl _ _,R,rfl⟩
theorem Vy.more {op:BoolOp} {pos:Pos} {m:ME} {y:Expr} {rest:List Expr} (x:EOk cx A P Φ env Γ m (.BoolOp op (y :: rest) pos)):Vy cx A P Φ env Γ op pos m (y :: rest):=⟨x.val,x.tru⟩
theorem Fj {a:Val} {v:Value}:Sim cx A (P.and (Amb.vr cx a v)) (truthy v) (C8 a) (fun b b'=>Amb.prop (b'=b /\ v=.bool b)):=by
  intro H ρ s R p
  have x:VR cx ρ s.heap a v:=p.2
  cases x with
  | bool b=>exact At R fun Q E k=>wpAny_truthy_bool (k _ s.toks ⟨rfl,rfl⟩)
  | _=>trivial
set_option backward.match.sparseCases true in
theorem Aa6 {a b:ME} {x y:Expr} {rest:List Expr} {pos:Pos} (hx:EOk cx A P Φ env Γ a x) (hy:Vy cx A P Φ env Γ .And pos b (y :: rest)):EOk cx A P Φ env Γ (.and a b) (.BoolOp .And (x :: y :: rest) pos):=by
  refine ⟨?_,?_⟩
  · skip
    refine hx.val.bind (f:=fun v=>do
      standAt pos
      let t <- holding [v] (truthy v)
      match BoolOp.And,t with
      | .And,false | .Or,true=>pure v
      | _,_=>boolOp pos .And (evalEach (y :: rest) env)) fun x1 v=>Sim.stand ((Sim.holding Fj).bind fun b b'=>?_)
    intro H ρ s R p
    obtain ⟨e1,e2⟩:b'=b /\ v=.bool b:=p.2
    subst e1 e2
    cases b' with
    | true=>exact hy.1 H ρ s R p.1.1
    | false=>exact wpAny_pure ⟨ρ,Full.refl _ _,R,.bool _⟩
  · rw [arm_isTrue_BoolOp,arm_allTrue_cons,Adm]
    refine Sim.of_m (m:=((Am cx.T Φ a Γ).bnd C8).bnd fun t=>match t with
      | true=>(Am cx.T Φ b Γ).bnd C8
      | false=>M.ret false) ?_ (hx.tru.bind fun b b'=>?_)
    · rw [Bj,Bj]
      congr 1;funext x1
      rw [Bj]
      congr 1;funext t
      cases t <;> rfl
    · intro H ρ s R p
      have e:b'=b:=p.2
      refine e▸?_
      cases b' with
      | true=>exact hy.2 H ρ s R p.1
      | false=>exact wpAny_pure ⟨ρ,Full.refl _ _,R,rfl⟩
set_option backward.match.sparseCases true in
theorem Aec {a b:ME} {x y:Expr} {rest:List Expr} {pos:Pos} (hx:EOk cx A P Φ env Γ a x) (hy:Vy cx A P Φ env Γ .Or pos b (y :: rest)):EOk cx A P Φ env Γ (.or a b) (.BoolOp .Or (x :: y :: rest) pos):=by
  refine ⟨?_,?_⟩
  · skip
    refine hx.val.bind (f:=fun v=>do
      standAt pos
      let t <- holding [v] (truthy v)
      match BoolOp.Or,t with
      | .And,false | .Or,true=>pure v
      | _,_=>boolOp pos .Or (evalEach (y :: rest) env)) fun x1 v=>Sim.stand ((Sim.holding Fj).bind fun b b'=>?_)
    intro H ρ s R p
    obtain ⟨e1,e2⟩:b'=b /\ v=.bool b:=p.2
    subst e1 e2
    cases b' with
    | false=>exact hy.1 H ρ s R p.1.1
    | true=>exact wpAny_pure ⟨ρ,Full.refl _ _,R,.bool _⟩
  · rw [arm_isTrue_BoolOp,arm_allTrue_cons,Afv]
    refine Sim.of_m (m:=((Am cx.T Φ a Γ).bnd C8).bnd fun t=>match t with
      | true=>M.ret true
      | false=>(Am cx.T Φ b Γ).bnd C8) ?_ (hx.tru.bind fun b b'=>?_)
    · rw [Bj,Bj]
      congr 1;funext x1
      rw [Bj]
      congr 1;funext t
      cases t <;> rfl
    · intro H ρ s R p
      have e:b'=b:=p.2
      subst e
      cases b' with
      | false=>exact hy.2 H ρ s R p.1
      | true=>exact wpAny_pure ⟨ρ,Full.refl _ _,R,rfl⟩
theorem Er {r:Expr} (h:D6 r=true) (op:CmpOp):behindInMarks op r=false:=by
  cases r <;> first | rfl | exact Aq h
theorem S4 (hu:A.units+100 < cLine) {op:COp} {a b:ME} {l r:Expr} {pos:Pos} (hn:D6 r=true) (x:EOk cx A P Φ env Γ a l) (y:EOk cx A P Φ env Γ b r):EOk cx A P Φ env Γ (.cmp op a b) (.Compare l [I8 op] [r] pos):=by
  have V:∀ (x1 y1:Val) (v w:Value),Sim cx A ((P.and (Amb.vr cx x1 v)).and (Amb.vr cx y1 w)) (operate [v,w] (compareOp (I8 op) v w)) ((M.look (Dy op x1 y1)).bnd fun r=>M.ret (Val.bool r)) (Amb.vr cx) :=
    fun x1 y1 v w=>Sim.oper (Lw hu (fun _ _ p=>p.1.2) fun _ _ p=>p.2)
  refine ⟨?_,?_⟩
  · rw [eval_Compare1,markedBehindIn_of_false (Er hn _)]
    exact x.val.bind fun x1 v=>(Sim.holding y.val.and1).bind fun y1 w=>Sim.stand (V x1 y1 v w)
  · rw [isTrue_Compare1,markedBehindIn_of_false (Er hn _),Adn]
    rw [Bj]
    refine x.val.bind fun x1 v=>?_
    rw [Bj]
    exact (Sim.holding y.val.and1).bind fun y1 w=>Sim.stand ((V x1 y1 v w).bind fun r c=>Sim.holding G0)
theorem Ww (hu:A.units+100 < cLine) {op1 op2:COp} {a b c:ME} {l m r:Expr} {pos:Pos} (hn:D6 r=true) (x:EOk cx A P Φ env Γ a l) (y:EOk cx A P Φ env Γ b m) (z:EOk cx A P Φ env Γ c r):EOk cx A P Φ env Γ (.cmp2 op1 op2 a b c) (.Compare l [I8 op1,I8 op2] [m,r] pos):=by
  have V1:∀ (x1 y1:Val) (v w:Value),Sim cx A ((P.and (Amb.vr cx x1 v)).and (Amb.vr cx y1 w)) (holding [v,w] (compareOp (I8 op1) v w)) ((M.look (Dy op1 x1 y1)).bnd fun r=>M.ret (Val.bool r)) (Amb.vr cx) :=
    fun x1 y1 v w=>Sim.holding (Lw hu (fun _ _ p=>p.1.2) fun _ _ p=>p.2)
  have e0:∀ (x1 y1:Val) (k:Bool -> M Val),((M.look (Dy op1 x1 y1)).bnd k)=(((M.look (Dy op1 x1 y1)).bnd fun r=>M.ret (Val.bool r)).bnd fun v=>(C8 v).bnd k):=fun x1 y1 k=>by
    rw [Bj];rfl
  refine ⟨?_,?_⟩
  · rw [arm_eval_Compare,Rz]
    have em:markedEach [I8 op1,I8 op2] [m,r] (evalEach [m,r] env)=[eval m env,eval r env]:=by
      show [eval m env,markedBehindIn (I8 op2) r (eval r env)]=_
      rw [markedBehindIn_of_false (Er hn _)]
    rw [em]
    refine x.val.bind (f:=fun left=>do
      let rv <- holding [left] (eval m env)
      standAt pos
      let c <- holding [left,rv] (compareOp (I8 op1) left rv)
      release [left,rv] [c]
      if <- holding [c,rv] (truthy c) then compareChain pos rv [I8 op2] [eval r env] else pure c) fun x1 v=>?_
    refine (Sim.holding y.val.and1).bind fun y1 w=>Sim.stand ?_
    rw [e0]
    refine (V1 x1 y1 v w).bind fun r1 c1=>Sim.relse ?_
    refine (Sim.holding Fj).bind fun t t'=>?_
    intro H ρ s R p
    obtain ⟨e1,e2⟩:t'=t /\ c1=.bool t:=p.2
    subst e1 e2
    cases t' with
    | false=>exact wpAny_pure ⟨ρ,Full.refl _ _,R,.bool _⟩
    | true =>
      have W:Sim cx A (P.and (Amb.vr cx y1 w)) (compareChain pos w [I8 op2] [eval r env]) ((Am cx.T Φ c Γ).bnd fun z=>(M.look (Dy op2 y1 z)).bnd fun r=>M.ret (Val.bool r)) (Amb.vr cx) :=
        (Sim.holding z.val.and1).bind fun z1 u=>Sim.stand (Sim.oper (Lw hu (fun _ _ p=>p.1.2) fun _ _ p=>p.2))
      exact W H ρ s R ⟨p.1.1.1.1,p.1.1.2⟩
  · rw [arm_isTrue_Compare,Rz]
    have em:markedEach [I8 op1,I8 op2] [m,r] (evalEach [m,r] env)=[eval m env,eval r env]:=by
      show [eval m env,markedBehindIn (I8 op2) r (eval r env)]=_
      rw [markedBehindIn_of_false (Er hn _)]
    rw [em,Bj]
    refine x.val.bind (f:=fun left=>do
      let rv <- holding [left] (eval m env)
      standAt pos
      let c <- holding [left,rv] (compareOp (I8 op1) left rv)
      release [left,rv] [c]
      if <- holding [c,rv] (truthy c) then testChain pos rv [I8 op2] [eval r env] else pure false) fun x1 v=>?_
    rw [Bj]
    refine (Sim.holding y.val.and1).bind fun y1 w=>Sim.stand ?_
    rw [e0,Bj]
    refine (V1 x1 y1 v w).bind fun r1 c1=>Sim.relse ?_
    rw [Bj]
    refine (Sim.holding Fj).bind fun t t'=>?_
    intro H ρ s R p
    obtain ⟨e1,e2⟩:t'=t /\ c1=.bool t:=p.2
    subst e1 e2
    cases t' with
    | false=>exact wpAny_pure ⟨ρ,Full.refl _ _,R,rfl⟩
    | true =>
      have W:Sim cx A (P.and (Amb.vr cx y1 w)) (testChain pos w [I8 op2] [eval r env]) (((Am cx.T Φ c Γ).bnd fun z=>(M.look (Dy op2 y1 z)).bnd fun r=>M.ret (Val.bool r)).bnd C8) BV:=by
        rw [Bj]
        have V2:∀ (z1:Val) (u:Value),Sim cx A ((P.and (Amb.vr cx y1 w)).and (Amb.vr cx z1 u)) (operate [w,u] (compareOp (I8 op2) w u)) ((M.look (Dy op2 y1 z1)).bnd fun r=>M.ret (Val.bool r)) (Amb.vr cx) :=
          fun z1 u=>Sim.oper (Lw hu (fun _ _ p=>p.1.2) fun _ _ p=>p.2)
        exact (Sim.holding z.val.and1).bind fun z1 u=>Sim.stand ((V2 z1 u).bind fun _ _=>Sim.holding G0)
      exact W H ρ s R ⟨p.1.1.1.1,p.1.1.2⟩
end
theorem Fz {α:Type} {f:Hp -> Option α} {H:Hp} {a:α} (h:f H=some a):M.look f H=.ok a H:=by unfold M.look;rw [h]
theorem F5 {α:Type} {f:Hp -> Option α} {H:Hp} (h:f H=none):M.look f H=.bad:=by unfold M.look;rw [h]
theorem Aa7 (f:BF) (h:f≠.sortedSet):((Gu f).1,Lx f)∈Iz:=by
  unfold Iz
  cases f <;> first
    | exact absurd rfl h
    | repeat (first | exact List.Mem.head _ | apply List.Mem.tail)
theorem Aed (t:Ty) (h:∀ c,t≠.cls c):(M0 t,Wj t)∈Iz:=by
  unfold Iz
  cases t <;> first
    | exact absurd rfl (h _)
    | repeat (first | exact List.Mem.head _ | apply List.Mem.tail)
theorem S5:(("isinstance":Str),Value.builtin "isinstance")∈Iz:=by
  unfold Iz
  repeat (first | exact List.Mem.head _ | apply List.Mem.tail)
section
variable {cx:Cx} {N:Names} {A:Around} {P:Amb} {env:Env} {sc:Scope} {ns:List (Option Str)} {Γ:Env'} {Φ:Funs} {l:List Env}
theorem Amn {α:Type} {xs:List α} (h:xs.length=2):∃ a b,xs=[a,b]:=by
  match xs,h with
  | [a,b],_=>exact ⟨a,b,rfl⟩
theorem Qv (hh:A.handled=none) (hu:A.units+100 < cLine) (f:BF) (hf:f≠.sortedSet) {ms:List Val} {vs:List Value} (hl:ms.length=(Gu f).2):Sim cx A (Amb.vrs cx ms vs) (call (Lx f) vs) (bfV f ms) (Amb.vr cx):=by
  have one:∀ {t:Sem Value} {m:Val -> M Val},ms.length=1 -> (∀ (a:Val) (v:Value),ms=[a] -> vs=[v] -> Sim cx A (Amb.vr cx a v) t (bfV f ms) (Amb.vr cx)) -> Sim cx A (Amb.vrs cx ms vs) t (bfV f ms) (Amb.vr cx):=by
    intro t m h1 k H ρ s R p
    have p':VRs cx ρ s.heap ms vs:=p
    have hv:=p'.length
    obtain ⟨a,rfl⟩:=List.length_eq_one_iff.mp h1
    refine ex1 p'.one_inv fun v zz=>Ad zz fun zr1 x=>?_;subst zr1
    exact k a v rfl rfl H ρ s R x
  have two:∀ {t:Sem Value} {m:Val -> M Val},ms.length=2 -> (∀ (a b:Val) (v w:Value),ms=[a,b] -> vs=[v,w] -> Sim cx A ((Amb.vr cx a v).and (Amb.vr cx b w)) t (bfV f ms) (Amb.vr cx)) -> Sim cx A (Amb.vrs cx ms vs) t (bfV f ms) (Amb.vr cx):=by
    intro t m h1 k H ρ s R p
    have p':VRs cx ρ s.heap ms vs:=p
    have hv:=p'.length
    refine ex2 (Amn h1) fun a b zr2=>?_;subst zr2
    refine ex2 p'.two_inv fun v w zz=>Av zz fun zr2 x y=>?_;subst zr2
    exact k a b v w rfl rfl H ρ s R ⟨x,y⟩
  cases f with
  | len=>exact one (m:=fun _=>.bad) hl fun a v e1 e2=>by subst e1 e2;exact Aaq fun _ _ p=>p
  | range=>exact one (m:=fun _=>.bad) hl fun a v e1 e2=>by subst e1 e2;exact Sk fun _ _ p=>p
  | list=>exact one (m:=fun _=>.bad) hl fun a v e1 e2=>by subst e1 e2;exact Qr hh fun _ _ p=>p
  | max2=>exact two (m:=fun _=>.bad) hl fun a b v w e1 e2=>by subst e1 e2;exact Wl hh (fun _ _ p=>p.1) fun _ _ p=>p.2
  | sortedSet=>exact absurd rfl hf
theorem Aee (B:Base cx N) (hh:A.handled=none) (hu:A.units+100 < cLine) {f:BF} {x:Str} {xs:List Expr} {es:MEs} {np pos:Pos} (hg:B5 sc x=true) (hx:(Gu f).1=x) (hl:(Gu f).2=xs.length) (hes:ckEs N sc ns es xs=true)
    (y:Sim cx A ((Amb.env cx env sc ns Γ).and (Amb.frames cx l)) (spliced (xs.map fun e=>(false,eval e env))) (evalEs cx.T Φ es Γ) (Amb.vrs cx)) :
    EOk cx A ((Amb.env cx env sc ns Γ).and (Amb.frames cx l)) Φ env Γ (.bf f es) (.Call (.Name x np) xs [] pos):=by
  refine EOk.of ?_ rfl
  refine ex2 B.ns fun mg mb zz=>Lp zz fun ng nb _ _ _ q=>?_
  intro H ρ s R p
  by_cases hf:f=.sortedSet
  · subst hf
    first | rw [Js] | rw [My] | rw [Hg] | rw [R6] | rw [Fw] | rw [R7]
    show Bg cx A (M.bnd _ (fun vs=>bfV .sortedSet vs) H) _ _ ρ s
    have hx':xs=[]:=List.eq_nil_of_length_eq_zero hl.symm
    subst hx'
    obtain hr0:=Fi hes;refine Eq.symm hr0▸?_
    trivial
  · have q12:mg (Gu f).1=none /\ mb (Gu f).1=some (Lx f):=q _ (Aa7 f hf)
    obtain ⟨q1,q2⟩:=q12
    rw [hx] at q1 q2
    first | rw [Js] | rw [My] | rw [Hg] | rw [R6] | rw [Fw] | rw [R7]
    refine Gs.mono (Fy (f:=Lx f) (K:=fun vs Q E s=>wpAny (model cx.prog cx.w) A (call (Lx f) vs) Q E s) (fun e=>Fi (e▸hes)) R (y H ρ s R p) ?_ fun _=>Jc _) ?_
    · intro ms vs H1 ρ1 s1 e1 F1 R1 vrs
      exact Qv hh hu f hf (by rw [Ch hes e1,hl]) H1 ρ1 s1 R1 vrs
    · intro Q E h
      refine wpAny_Call_ofName (wp_glob R p.1.st hg ng nb (v:=Lx f) (.inr ⟨q1,q2⟩) ?_)
      rw [Au pos (B7 hes)]
      have hq:(∃ id,Lx f=.builtin id) \/ ∃ T,Lx f=.type T:=by
        cases f <;> first | exact absurd rfl hf | exact .inl ⟨_,rfl⟩ | exact .inr ⟨_,rfl⟩
      generalize Lx f=bv at h hq ⊢
      rcases hq with ⟨id,rfl⟩ | ⟨T,rfl⟩
      · exact Calls.callWith_builtin (Ei _) (wpAny_mono h (fun a s₁ h₁=>by rw [h₁.1];exact h₁.2) fun _ _ q=>q)
      · exact PyProof.Rows.callWith_type (Ei _) (wpAny_mono h (fun a s₁ h₁=>by rw [h₁.1];exact h₁.2) fun _ _ q=>q)
theorem Ey (B:Base cx N) {t:Ty} (ht:∀ c,t≠.cls c) {a:ME} {f y:Str} {x:Expr} {fp yp pos:Pos} (hg:B5 sc f=true) (hf:f=("isinstance":Str)) (hy:B5 sc y=true) (hty:M0 t=y) (hp:Lz x=true)
    (z:EOk cx A ((Amb.env cx env sc ns Γ).and (Amb.frames cx l)) Φ env Γ a x) :
    EOk cx A ((Amb.env cx env sc ns Γ).and (Amb.frames cx l)) Φ env Γ (.isinst a t) (.Call (.Name f fp) [x,.Name y yp] [] pos):=by
  refine EOk.of ?_ rfl
  refine ex2 B.ns fun mg mb zz=>Lp zz fun ng nb _ _ _ q=>?_
  intro H ρ s R p
  have q12:mg ("isinstance":Str)=none /\ mb ("isinstance":Str)=some (.builtin "isinstance"):=q _ S5
  have q34:mg (M0 t)=none /\ mb (M0 t)=some (Wj t):=q _ (Aed t ht)
  obtain ⟨q1,q2⟩:=q12
  obtain ⟨q3,q4⟩:=q34
  rw [<- hf] at q1 q2
  rw [hty] at q3 q4
  first | rw [Js] | rw [My] | rw [Hg] | rw [R6] | rw [Fw] | rw [R7]
  refine Bg.bindK (K':=fun Q E s=>wpAny (model cx.prog cx.w) A (eval (.Call (.Name f fp) [x,.Name y yp] [] pos) env) Q E s) (K:=fun v Q E s=>wpAny (model cx.prog cx.w) A (eval (.Name y yp) env) (fun w s'=>wpAny (model cx.prog cx.w) A (call (.builtin "isinstance") [v,w]) Q E s') E s) (z.val H ρ s R p) ?_ ?_ ?_
  · intro b v H1 ρ1 s1 _ F1 R1 vr
    have e1:=(p.1.full F1).st
    have ht2:(Bh cx.T b t)=M.look (fun H=>(Pc H b).map fun k=>Val.bool (Ys t k)):=by
      cases t <;> first | rfl | exact absurd rfl (ht _)
    show Gs cx (Bh cx.T b t H1) _ _ ρ1 s1
    rw [ht2]
    cases ek:Pc H1 b with
    | none =>
      have:M.look (fun H=>(Pc H b).map fun k=>Val.bool (Ys t k)) H1=.bad:=F5 (by show Option.map _ (Pc H1 b)=none;rw [ek];rfl)
      rw [this];trivial
    | some k =>
      have:M.look (fun H=>(Pc H b).map fun k=>Val.bool (Ys t k)) H1=.ok (Val.bool (Ys t k)) H1:=Fz (by show Option.map _ (Pc H1 b)=_;rw [ek];rfl)
      rw [this]
      refine wp_glob R1 e1 hy ng nb (v:=Wj t) (.inr ⟨q3,q4⟩) ?_
      exact Ad7 R1 vr ek ht fun tk=>⟨ρ1,Full.refl _ _,R1.toks tk,.bool _⟩
  · exact fun v Q E Q' E' s h k1 k2=>wpAny_mono h (fun _ _ h'=>wpAny_mono h' k1 k2) k2
  · intro Q E h
    refine wpAny_Call_ofName (wp_glob R p.1.st hg ng nb (v:=.builtin "isinstance") (.inr ⟨q1,q2⟩) ?_)
    have pl:Cd env [x,.Name y yp]:=⟨Cs hp,Cs rfl,trivial⟩
    rw [Au pos pl]
    refine Calls.callWith_builtin (Ei _) (Calls.evalArgs_plain (Calls.spliced_cons (wpAny_mono h (fun v s' h'=>?_) fun _ _ q=>q)))
    exact Calls.spliced_cons (wpAny_mono h' (fun w s'' h''=>Calls.spliced_nil h'') fun _ _ q=>q)
theorem Aa8 (hu:A.units+100 < cLine) {a i:ME} {v s:Expr} {pos:Pos} (x:EOk cx A P Φ env Γ a v) (y:EOk cx A P Φ env Γ i s):EOk cx A P Φ env Γ (.sub a i) (.Subscript v s pos):=by
  refine EOk.of ?_ rfl
  intro H ρ st R p
  refine Bg.bindK (K':=fun Q E s'=>wpAny (model cx.prog cx.w) A (eval (.Subscript v s pos) env) Q E s') (K:=fun o Q E s'=>wpAny (model cx.prog cx.w) A (eval s env) (fun i s''=>wpAny (model cx.prog cx.w) A (PyProof.Rows.subscriptTail v s o i) Q E s'') E s') (x.val H ρ st R p) ?_ ?_ ?_
  · intro b o H1 ρ1 s1 _ F1 R1 vr
    refine Bg.bindK (K':=fun Q E s'=>wpAny (model cx.prog cx.w) A (eval s env) (fun i s''=>wpAny (model cx.prog cx.w) A (PyProof.Rows.subscriptTail v s o i) Q E s'') E s') (K:=fun i Q E s'=>wpAny (model cx.prog cx.w) A (PyProof.Rows.subscriptTail v s o i) Q E s') (y.val H1 ρ1 s1 R1 (P.st _ _ _ _ p F1)) ?_ (fun _=>Jc _) fun Q E h=>h
    intro b2 i2 H2 ρ2 s2 _ F2 R2 vr2
    exact Oa (P:=(Amb.vr cx b o).and (Amb.vr cx b2 i2)) hu (fun _ _ p=>p.1) (fun _ _ p=>p.2) H2 ρ2 s2 R2 ⟨vr.step F2.step,vr2⟩
  · exact fun v Q E Q' E' s h k1 k2=>wpAny_mono h (fun _ _ h'=>wpAny_mono h' k1 k2) k2
  · exact fun Q E h=>PyProof.Rows.Subscript_ h
end
section
variable {cx:Cx} {N:Names} {A:Around} {Φ:Funs} {l:List Env} {env:Env} {sc:Scope} {ns:List (Option Str)} {Γ:Env'} {H:Hp} {ρ:Rho} {s:Shared}
theorem Aa9 (B:Base cx N) (R:Rel cx H ρ s) {c dc:Nat} {v D:Value} (vr:VR cx ρ s.heap (.exc c) v) (hi:cx.T.isExc c=true) (hD:cx.cls[dc]?=some D) {Q:Value -> Shared -> Prop} {E:Value -> Shared -> Prop} (q:∀ tk,Q (.bool (cx.T.sub c dc)) { s with toks:=tk }) :
    wpAny (model cx.prog cx.w) A (call (.builtin "isinstance") [v,D]) Q E s:=by
  refine ex1 (B.exc c hi) fun C zz=>Ad zz fun hC ok=>?_
  refine ex1 ok.isi fun K zz=>Av zz fun X k m=>?_
  obtain ⟨m1,m2⟩:=m dc D hD
  cases vr with
  | @exc a o _ C' g no hC' x =>
    rw [hC] at hC';cases hC'
    refine Av x fun x1 zn1 x3=>?_;obtain ⟨vs,x2⟩:=zn1
    have XK:K.In s.heap:=fun b ob e=>R.base b ob (X b ob e)
    refine Se (K:=K) (D:=C) (ox:=o) k XK ⟨g,x1,by unfold PySem.W.notCls;rw [x2],by rw [x3];trivial⟩ (fun M h' X'=>(Mz m1 X').1) (fun M h' X'=>(Mz m1 X').2) (fun e=>?_) (fun M h' X'=>PySem.W.looks_mroIn X' m2) q
    have e':=beq_iff_eq.mp e
    subst e'
    have:=ok.is
    refine Ah fun G kG=>?_
    refine V3 ok.is fun nm qn Nn bs bm hdct sn sub ab col dd k0 k1 k2 zz=>ex3 zz fun k3 k5 mN zz=>Fc zz fun hCo hNs hin tl hsub=>?_
    refine kG ?_
    rw [hsub dc _ hD,List.contains_cons,beq_self_eq_true,Bool.true_or]
theorem Pp (B:Base cx N) {dc:Nat} {a:ME} {f y:Str} {x:Expr} {fp yp pos:Pos} (hg:B5 sc f=true) (hf:f=("isinstance":Str)) (hy:B5 sc y=true) (hc:D8 N.clss y dc=true) (hp:Lz x=true)
    (z:EOk cx A ((Amb.env cx env sc ns Γ).and (Amb.frames cx l)) Φ env Γ a x) :
    EOk cx A ((Amb.env cx env sc ns Γ).and (Amb.frames cx l)) Φ env Γ (.isinst a (.cls dc)) (.Call (.Name f fp) [x,.Name y yp] [] pos):=by
  refine EOk.of ?_ rfl
  refine Ah fun G kG=>?_
  refine ex2 B.ns fun mg mb zz=>Lp zz fun ng nb _ _ qc q=>?_
  refine kG ?_
  intro H ρ s R p
  have q12:mg ("isinstance":Str)=none /\ mb ("isinstance":Str)=some (.builtin "isinstance"):=q _ S5
  obtain ⟨q1,q2⟩:=q12
  rw [<- hf] at q1 q2
  refine ex1 (qc y dc (Cw hc)) fun D zz=>Ad zz fun hD hx=>?_
  refine Bg.bindK (K':=fun Q E s=>wpAny (model cx.prog cx.w) A (eval (.Call (.Name f fp) [x,.Name y yp] [] pos) env) Q E s) (K:=fun v Q E s=>wpAny (model cx.prog cx.w) A (eval (.Name y yp) env) (fun w s'=>wpAny (model cx.prog cx.w) A (call (.builtin "isinstance") [v,w]) Q E s') E s) (z.val H ρ s R p) ?_ ?_ ?_
  · intro b v H1 ρ1 s1 _ F1 R1 vr
    have e1:=(p.1.full F1).st
    cases b with
    | exc c =>
      by_cases hi:cx.T.isExc c=true
      · have:Bh cx.T (.exc c) (.cls dc) H1=.ok (.bool (cx.T.sub c dc)) H1:=Fz (by show (if cx.T.isExc c=true then some (Val.bool (cx.T.sub c dc)) else none)=_;rw [if_pos hi])
        rw [this]
        refine wp_glob R1 e1 hy ng nb hx ?_
        exact Aa9 B R1 vr hi hD fun tk=>⟨ρ1,Full.refl _ _,R1.toks tk,.bool _⟩
      · have:Bh cx.T (.exc c) (.cls dc) H1=.bad:=F5 (by show (if cx.T.isExc c=true then some (Val.bool (cx.T.sub c dc)) else none)=_;rw [if_neg hi])
        rw [this];trivial
    | _=>trivial
  · exact fun v Q E Q' E' s h k1 k2=>wpAny_mono h (fun _ _ h'=>wpAny_mono h' k1 k2) k2
  · intro Q E h
    refine wpAny_Call_ofName (wp_glob R p.1.st hg ng nb (v:=.builtin "isinstance") (.inr ⟨q1,q2⟩) ?_)
    have pl:Cd env [x,.Name y yp]:=⟨Cs hp,Cs rfl,trivial⟩
    rw [Au pos pl]
    refine Calls.callWith_builtin (Ei _) (Calls.evalArgs_plain (Calls.spliced_cons (wpAny_mono h (fun v s' h'=>?_) fun _ _ q=>q)))
    exact Calls.spliced_cons (wpAny_mono h' (fun w s'' h''=>Calls.spliced_nil h'') fun _ _ q=>q)
end
noncomputable def Fu (env:Env):List (Str × NameKind) -> List (Str × Addr) -> List (Str × Addr)
  | [],acc=>acc
  | (n,k) :: r,acc=>if k == .free then Fu env r ((n,(env.cells.lookup n).getD 0) :: acc) else Fu env r acc
theorem Hn {scope:Scope} {env:Env} (h:∀ p∈scope.names,p.2=.free -> ∃ c,env.cells.lookup p.1=some c):closureFor scope env=pure (Fu env scope.names []):=by
  have gen:∀ (names:List (Str × NameKind)) (acc:List (Str × Addr)),(∀ p∈names,p.2=.free -> ∃ c,env.cells.lookup p.1=some c) ->
      (forIn names acc fun x cs=>if (x.2 == .free)=true then (do let c <- cellOf env x.1;pure (ForInStep.yield ((x.1,c) :: cs))) else pure (ForInStep.yield cs):Sem _)=pure (Fu env names acc):=by
    intro names
    induction names with
    | nil=>intro acc _;rfl
    | cons p r ih =>
      intro acc hp
      obtain ⟨n,k⟩:=p
      rw [List.forIn_cons]
      unfold Fu
      by_cases q:(k == .free)=true
      · obtain ⟨c,hc⟩:=hp (n,k) (.head _) (by simpa using q)
        have hc':env.cells.lookup n=some c:=hc
        have e:cellOf env n=pure c:=by unfold cellOf;rw [hc']
        simp only [q,if_true,e,pure_bind,hc',Option.getD_some]
        exact ih _ fun p hp'=>hp p (.tail _ hp')
      · simp only [q,if_false,pure_bind]
        exact ih _ fun p hp'=>hp p (.tail _ hp')
  unfold closureFor
  have:=gen scope.names [] h
  simp only [bind_pure] at this ⊢
  rw [<- this]
set_option tactic.hygienic true in
theorem Oh {env:Env}:∀ {names:List (Str × NameKind)} {acc:List (Str × Addr)} {y:Str} {c:Addr},(∀ z d,acc.lookup z=some d -> d=(env.cells.lookup z).getD 0) -> (Fu env names acc).lookup y=some c -> c=(env.cells.lookup y).getD 0
  | [],acc,y,c,ha,h=>ha y c h
  | (n,k) :: r,acc,y,c,ha,h=>by
    unfold Fu at h
    split at h
    · refine Oh (fun z d hd=>?_) h
      rw [List.lookup_cons] at hd
      split at hd
      · rename_i e
        have:z=n:=by simpa using e
        refine Eq.symm this▸?_
        cases hd;rfl
      · exact ha z d hd
    · exact Oh ha h
set_option tactic.hygienic true in
theorem Oi {env:Env}:∀ {names:List (Str × NameKind)} {acc:List (Str × Addr)} {y:Str},((y,NameKind.free)∈names \/ (acc.lookup y).isSome=true) -> ((Fu env names acc).lookup y).isSome=true
  | [],_,_,h=>by
    rcases h with h | h
    · cases h
    · exact h
  | (n,k) :: r,acc,y,h=>by
    unfold Fu
    split
    · rename_i hk
      refine Oi ?_
      rcases h with h | h
      · rcases List.mem_cons.mp h with e | h
        · cases e;right;simp
        · exact .inl h
      · right
        rw [List.lookup_cons]
        split
        · rfl
        · exact h
    · rename_i hk
      refine Oi ?_
      rcases h with h | h
      · rcases List.mem_cons.mp h with e | h
        · cases e;simp at hk
        · exact .inl h
      · exact .inr h
set_option tactic.hygienic true in
theorem Oj {env:Env}:∀ {names:List (Str × NameKind)} {acc:List (Str × Addr)} {y:Str} {c:Addr},(Fu env names acc).lookup y=some c -> (y,NameKind.free)∈names \/ (acc.lookup y).isSome=true
  | [],_,_,_,h=>by right;have h':List.lookup _ _=_:=h;unfold Fu at h';rw [h'];rfl
  | (n,k) :: r,acc,y,c,h=>by
    unfold Fu at h
    split at h
    · rename_i hk
      rcases Oj h with h | h
      · exact .inl (.tail _ h)
      · rw [List.lookup_cons] at h
        split at h
        · rename_i e
          have:y=n:=by simpa using e
          refine this▸?_
          have:k=.free:=by simpa using hk
          subst this
          exact .inl (.head _)
        · exact .inr h
    · rcases Oj h with h | h
      · exact .inl (.tail _ h)
      · exact .inr h
theorem Cy:∀ (names:List (Str × NameKind)) (n:Nat) (acc:List (Str × Addr)),cellsFrom n names acc=cellsFrom n names []++acc
  | [],_,_=>rfl
  | (y,k) :: r,n,acc=>by
    unfold cellsFrom
    split
    · rw [Cy r (n+1) ((y,n) :: acc),Cy r (n+1) [(y,n)],List.append_assoc];rfl
    · exact Cy r n acc
set_option tactic.hygienic true in
theorem D9:∀ {names:List (Str × NameKind)} {n:Nat} {acc:List (Str × Addr)} {y:Str} {c:Addr},(y,c)∈cellsFrom n names acc -> (y,NameKind.cell)∈names \/ (y,c)∈acc
  | [],_,_,_,_,h=>.inr h
  | (z,k) :: r,n,acc,y,c,h=>by
    unfold cellsFrom at h
    split at h
    · rename_i hk
      rcases D9 h with h | h
      · exact .inl (.tail _ h)
      · rcases List.mem_cons.mp h with e | h
        · cases e
          have:k=.cell:=by simpa using hk
          refine this▸?_
          exact .inl (.head _)
        · exact .inr h
    · rcases D9 h with h | h
      · exact .inl (.tail _ h)
      · exact .inr h
theorem Gv {env:Env}:∀ (names:List (Str × NameKind)) (y:Str),(names.map fun (n,k)=>if (k == NameKind.free && env.scope.kind == .function && env.kindOf n == some .cell) then (n,NameKind.cell) else (n,k)).lookup y =
    (names.lookup y).map fun k=>if (k == NameKind.free && env.scope.kind == .function && env.kindOf y == some .cell)=true then NameKind.cell else k
  | [],_=>rfl
  | (n,k) :: r,y=>by
    have ih:=@Gv env r y
    show List.lookup y ((if (k == NameKind.free && env.scope.kind == .function && env.kindOf n == some .cell)=true then (n,NameKind.cell) else (n,k)) :: _)=_
    cases hx:y == n with
    | true =>
      have:y=n:=by simpa using hx
      refine this▸?_
      by_cases hc:(k == NameKind.free && env.scope.kind == .function && env.kindOf y == some .cell)=true
      · rw [if_pos hc]
        simp only [List.lookup_cons,beq_self_eq_true,Option.map_some]
        rw [if_pos hc]
      · rw [if_neg hc]
        simp only [List.lookup_cons,beq_self_eq_true,Option.map_some]
        rw [if_neg hc]
    | false =>
      by_cases hc:(k == NameKind.free && env.scope.kind == .function && env.kindOf n == some .cell)=true
      · rw [if_pos hc];simp only [List.lookup_cons,hx];exact ih
      · rw [if_neg hc];simp only [List.lookup_cons,hx];exact ih
noncomputable def Fk (csc:Scope) (env:Env) (L:Addr):Env :=
  { scope:=relabel csc env,locals:=L,globals:=env.globals,cells:=cellsFrom (L+1) csc.names (Fu env csc.names []),qual:=env.qual,func:=none,code:=env.code,frame:=env.frame,builtins:=env.builtins }
noncomputable def Cz (csc:Scope) (h:Heap):Heap:=pushCells (h.push { cls:=.type "dict",data:=.dict #[] }) csc.names
theorem I9 {M:Model} {A:Around} {E:Value -> Shared -> Prop} {s:Shared} {env:Env} {csc:Scope} {Q:Env -> Shared -> Prop} (cl:List (Str × Addr))
    (h:Q (newEnv csc s.heap.objs.size env.globals (cellsFrom (s.heap.objs.size+1) csc.names cl) env.qual none .none (some env) builtinsNs) { s with heap:=Cz csc s.heap }) :
    wpAny M A (newFunctionEnv csc env.globals cl [] env.qual none .none (some env)) Q E s:=by
  simp only [newFunctionEnv,Option.isSome_some,if_true]
  refine wpAny_bind (wpAny_alloc ?_)
  refine wpAny_bind (wpAny_layCells _ (fun name kind cells=>by cases hkc:kind == NameKind.cell <;> simp [hkc]) _ _ _ _ ?_)
  rw [show ({ s with heap:=s.heap.push { cls:=.type "dict",data:=.dict #[] } }:Shared).heap.objs.size=s.heap.objs.size+1 from Heap.size_push ..]
  exact wpAny_bind (wpAny_pure (wpAny_pure h))
section
variable {cx:Cx} {N:Names} {A:Around} {env:Env} {sc csc:Scope} {ns:List (Option Str)} {Γ:Env'} {H:Hp} {ρ:Rho} {s:Shared} {x:Str}
theorem B2 (h:Jx sc csc x=true):csc.kind=.function /\ (csc.names.lookup x=some .local \/ csc.names.lookup x=some .cell) /\
    (∀ p∈csc.names,csc.names.lookup p.1=some p.2 /\ (p.2=.free -> sc.names.lookup p.1=some .cell \/ sc.names.lookup p.1=some .free)) :=
  ⟨of_decide_eq_true (an1 h),Sf (an1 (an2 h)),fun p hp=>have q:=List.all_eq_true.mp (an2 (an2 h)) p hp
    ⟨of_decide_eq_true (an1 q),fun w=>((Bool.or_eq_true _ _).mp (an2 q)).elim (fun z=>absurd w (of_decide_eq_false (not_not z))) Sf⟩⟩
theorem Pq {ns:List (Option Str)} {i:Nat} {y:Str} (h:(Ep csc ns)[i]?=some (some y)):ns[i]?=some (some y) /\ csc.names.lookup y=some .free:=by
  refine ex1 (Option.map_eq_some_iff.mp (List.getElem?_map.symm.trans h)) fun o zz=>Ad zz fun e h=>?_
  refine ex1 (Option.bind_eq_some_iff.mp h) fun z zz=>Ad zz fun e2 h=>?_
  obtain ⟨q,h⟩:=Lr h
  exact h▸⟨e.trans (congrArg some e2),q⟩
theorem Ci (csc:Scope) (h:Heap):∀ b o,h.get? b=some o -> (Cz csc h).get? b=some o:=fun b o e=>pushCells_keeps _ _ b o (Heap.get?_push_of_some _ e)
theorem Wx (R:Rel cx H ρ s) (e0:EnvOk cx env sc ns Γ ρ s.heap) (hc:Jx sc csc x=true) (hΓ:Γ.length=ns.length) :
    EnvOk cx (Fk csc env s.heap.objs.size) csc (Ep csc ns++[some x]) (Γ++[none]) ρ (Cz csc s.heap) /\
    (∀ q,csc.names.lookup x=some .cell -> (Fk csc env s.heap.objs.size).cells.lookup x=some q -> s.heap.get? q=none):=by
  refine Av (B2 hc) fun c1 c2 c3=>?_
  have F:Full ρ s.heap ρ (Cz csc s.heap):=Full.more (Ci csc s.heap)
  have lvB:Fh cx.h₀ s.heap:=fun b o e=>⟨o,R.base b o e⟩
  have ok:=cellsFrom_ok csc.names (s.heap.push { cls:=.type "dict",data:=.dict #[] }) (s.heap.objs.size+1) [] ⟨fun _ _ hm=>(nomatch hm),List.Pairwise.nil⟩ (by rw [Heap.size_push];exact Nat.le_refl _)
  rw [Heap.size_push] at ok
  have hcells:(Fk csc env s.heap.objs.size).cells=cellsFrom (s.heap.objs.size+1) csc.names []++Fu env csc.names []:=Cy _ _ _
  have hlook:∀ y c,(Fk csc env s.heap.objs.size).cells.lookup y=some c ->
      ((cellsFrom (s.heap.objs.size+1) csc.names []).lookup y=some c /\ (Cz csc s.heap).IsCell c none /\ s.heap.get? c=none /\ csc.names.lookup y=some .cell) \/
      (env.cells.lookup y=some c /\ csc.names.lookup y=some .free):=by
    intro y c h
    rw [hcells,List.lookup_append] at h
    cases q:(cellsFrom (s.heap.objs.size+1) csc.names []).lookup y with
    | some d =>
      rw [q] at h
      cases h
      have m:=ok.empty y c (mem_of_lookup q)
      refine .inl ⟨rfl,m.1,Hh (Nat.le_of_succ_le m.2),?_⟩
      rcases D9 (mem_of_lookup q) with w | w
      · exact (c3 _ w).1
      · exact nomatch w
    | none =>
      rw [q] at h
      have h':(Fu env csc.names []).lookup y=some c:=h
      have m:=Oj h'
      have mf:(y,NameKind.free)∈csc.names:=by
        rcases m with m | m
        · exact m
        · exact Aq m
      obtain ⟨l1,l2⟩:=c3 _ mf
      obtain ⟨d,hd⟩:=e0.st.hasCell y (l2 rfl)
      have v:=Oh (acc:=[]) (fun z d h=>by simp at h) h'
      rw [hd] at v
      exact .inr ⟨by rw [hd,v];rfl,l1⟩
  have hfree:∀ y,csc.names.lookup y=some .free -> ∃ c,(Fk csc env s.heap.objs.size).cells.lookup y=some c /\ env.cells.lookup y=some c:=by
    intro y hy
    have:=Oi (env:=env) (acc:=[]) (.inl (mem_of_lookup hy))
    obtain ⟨c,h⟩:=Option.isSome_iff_exists.mp this
    have hn:(cellsFrom (s.heap.objs.size+1) csc.names []).lookup y=none:=by
      cases q:(cellsFrom (s.heap.objs.size+1) csc.names []).lookup y with
      | none=>rfl
      | some d =>
        rcases D9 (mem_of_lookup q) with w | w
        · have:=(c3 _ w).1;rw [hy] at this;cases this
        · exact nomatch w
    have hl:(Fk csc env s.heap.objs.size).cells.lookup y=some c:=by rw [hcells,List.lookup_append,hn];exact h
    refine ⟨c,hl,?_⟩
    rcases hlook y c hl with ⟨_,_,_,w⟩ | ⟨w,_⟩
    · rw [hy] at w;exact nomatch w
    · exact w
  have hkind:∀ y,(Fk csc env s.heap.objs.size).kindOf y=(csc.names.lookup y).map fun k=>if (k == NameKind.free && env.scope.kind == .function && env.kindOf y == some .cell)=true then NameKind.cell else k:=fun y=>Gv csc.names y
  have locNs:(Cz csc s.heap).Ns s.heap.objs.size fun _=>none:=(Heap.Ns.new s.heap (.type "dict")).keeps (pushCells_keeps _ _)
  refine ⟨⟨⟨c1,e0.st.glob,e0.st.blt,fun y k hy=>?_,⟨_,locNs⟩,R.fresh_not (Ar _),lvB.none (Ar _),fun y c hy=>?_,fun y hy=>?_,fun y z c hy hz=>?_⟩,by unfold Ep;rw [List.length_append,List.length_append,List.length_map,hΓ];rfl,fun i y mv hi hm=>?_⟩,fun q hx hq=>?_⟩
  · rw [hkind,hy]
    cases k
    case free =>
      by_cases q:(NameKind.free == NameKind.free && env.scope.kind == .function && env.kindOf y == some .cell)=true
      · exact .inr (congrArg some (if_pos q))
      · exact .inl (congrArg some (if_neg q))
    all_goals first | rfl | trivial
  · rcases hlook y c hy with ⟨_,w1,w2,_⟩ | ⟨w,_⟩
    · exact ⟨⟨_,w1⟩,R.fresh_not w2,lvB.none w2⟩
    · refine Av (e0.st.cells y c w) fun zn0 n b=>?_;obtain ⟨v,hv⟩:=zn0
      exact ⟨⟨v,Bn hv (F.data n)⟩,n,b⟩
  · rcases hy with hy | hy
    · rw [hcells,List.lookup_append]
      obtain ⟨c,h⟩:=Option.isSome_iff_exists.mp (E5 (n:=s.heap.objs.size+1) (acc:=[]) (.inl (mem_of_lookup hy)))
      exact ⟨c,by rw [h];rfl⟩
    · refine ex1 (hfree y hy) fun c zz=>Ad zz fun h _=>?_
      exact ⟨c,h⟩
  · rcases hlook y c hy with ⟨w0,w1,w2,_⟩ | ⟨w,_⟩ <;> rcases hlook z c hz with ⟨u0,u1,u2,_⟩ | ⟨u,_⟩
    · exact name_of_addr ok.apart (mem_of_lookup w0) (mem_of_lookup u0)
    · obtain ⟨⟨v,o,ho,_⟩,_⟩:=e0.st.cells z c u
      rw [w2] at ho;exact Ae ho
    · obtain ⟨⟨v,o,ho,_⟩,_⟩:=e0.st.cells y c w
      rw [u2] at ho;exact Ae ho
    · exact e0.st.apart y z c w u
  · by_cases lt:i < ns.length
    · rw [List.getElem?_append_left (by unfold Ep;rw [List.length_map];exact lt)] at hi
      rw [List.getElem?_append_left (by rw [hΓ];exact lt)] at hm
      obtain ⟨hn,hf⟩:=Pq hi
      · · · refine Ah fun G kG=>?_
            refine ex1 (e0.vals i y mv hn hm) fun v zz=>Ad zz fun hv vr=>?_
            refine ex1 (hfree y hf) fun c zz=>Ad zz fun k1 k2=>?_
            refine kG ?_
            have ks:env.kindOf y=some .cell \/ env.kindOf y=some .free:=by
              rcases (c3 _ (mem_of_lookup hf)).2 rfl with w | w
              · exact .inl (e0.st.kinds y _ w)
              · rcases e0.st.kinds y _ w with w | w
                · exact .inr w
                · exact .inl w
            have hcell:s.heap.IsCell c (some v):=by
              rcases hv with ⟨kd,_⟩ | ⟨_,c',hc',hv⟩
              · rcases ks with w | w <;> rw [w] at kd <;> cases kd
              · rw [k2] at hc';cases hc';exact hv
            refine ⟨v,.inr ⟨?_,c,k1,hcell.keeps (Ci csc s.heap)⟩,vr.step F.step⟩
            rw [hkind,hf]
            simp only [Option.map_some]
            split
            · exact .inl rfl
            · exact .inr rfl
    · exfalso
      rw [List.getElem?_append_right (by rw [hΓ];exact o32 lt)] at hm
      cases q:i - Γ.length with
      | zero=>rw [q] at hm;simp at hm
      | succ n=>rw [q] at hm;simp at hm
  · rcases hlook x q hq with ⟨_,_,w,_⟩ | ⟨_,w⟩
    · exact w
    · rw [hx] at w;cases w
end
section
variable {cx:Cx} {N:Names} {A:Around} {env:Env} {sc:Scope} {ns:List (Option Str)} {Γ:Env'} {H:Hp} {ρ ρ':Rho} {s:Shared}
theorem Full.fresh {h h1 h2:Heap} {q:Addr} (F:Full ρ h ρ' h1) (hq:h.get? q=none) (hs:∀ b o,b≠q -> h1.get? b=some o -> h2.get? b=some o):Full ρ h ρ' h2:=by
  have ne:∀ b o,h.get? b=some o -> b≠q:=fun b o e w=>by rw [w,hq] at e;exact Ae e
  refine ⟨F.grow,fun b o e n=>?_,fun b o e=>?_⟩
  · refine ex1 (F.keep b o e n) fun o' zz=>Ad zz fun e' u=>?_
    exact ⟨o',hs b o' (ne b o e) e',u⟩
  · obtain ⟨o',e'⟩:=F.live b o e
    exact ⟨o',hs b o' (ne b o e) e'⟩
theorem Full.addOwn {h h1:Heap} {p:Addr × Addr} (F:Full ρ h ρ' h1) (hp:h.get? p.1=none /\ h.get? p.2=none):Full ρ h (ρ'++[p]) h1:=by
  refine ex1 F.grow fun e zz=>Ad zz fun hr0 he=>?_;refine Eq.symm hr0▸?_
  refine ⟨⟨e++[p],by rw [List.append_assoc],fun q hq=>?_⟩,F.keep,F.live⟩
  rcases List.mem_append.mp hq with hq | hq
  · exact he q hq
  · rw [List.mem_singleton.mp hq];exact hp
theorem EnvOk.but {h h':Heap} {q:Addr} (x:EnvOk cx env sc ns Γ ρ h) (hs:∀ b o,b≠q -> h.get? b=some o -> h'.get? b=some o) (n1:q≠env.locals) (n2:∀ y,env.cells.lookup y≠some q) (st:Step ρ h ρ h'):EnvOk cx env sc ns Γ ρ h':=by
  have kl:∀ o,h.get? env.locals=some o -> ∃ o',h'.get? env.locals=some o' /\ o'.data=o.data:=fun o e=>⟨o,hs _ o (fun w=>n1 w.symm) e,rfl⟩
  have kc:∀ y c,env.cells.lookup y=some c -> ∀ o,h.get? c=some o -> ∃ o',h'.get? c=some o' /\ o'.data=o.data:=fun y c hc o e=>⟨o,hs _ o (fun w=>n2 y (w▸hc)) e,rfl⟩
  obtain ⟨m,hm⟩:=x.st.loc
  refine ⟨⟨x.st.fn,x.st.glob,x.st.blt,x.st.kinds,⟨m,Bl hm kl⟩,x.st.locN,x.st.locB,fun y c hc=>?_,x.st.hasCell,x.st.apart⟩,x.len,fun i y mv hi hm=>?_⟩
  · refine Av (x.st.cells y c hc) fun zn0 a b=>?_;obtain ⟨v,hv⟩:=zn0
    exact ⟨⟨v,Bn hv (kc y c hc)⟩,a,b⟩
  · refine ex1 (x.vals i y mv hi hm) fun v zz=>Ad zz fun hv r=>?_
    refine ⟨v,?_,r.step st⟩
    rcases hv with ⟨k,m,hm,e⟩ | ⟨k,c,hc,e⟩
    · exact .inl ⟨k,m,Bl hm kl,e⟩
    · exact .inr ⟨k,c,hc,Bn e (kc y c hc)⟩
theorem Rel.adopt (R:Rel cx H ρ s) {D:Addr} {vs:List Value} {n:Nat} {xs:List Val} (e:s.heap.get? D=some (B1 vs n)) (r:VRs cx ρ s.heap xs vs) (z:xs.length <= sizeLine) (no:¬ A1 ρ D) (nb:cx.h₀.get? D=none) :
    Rel cx (H++[.list xs]) (ρ++[(D,D)]) s /\ VR cx (ρ++[(D,D)]) s.heap (.loc H.length) (.ref D):=by
  have notF:¬ Fx (B1 vs n):=E6.1
  have notC:∀ C,¬ Dq (B1 vs n) C:=E6.2
  have own:∀ b,¬ A1 ρ b -> b≠D -> ¬ A1 (ρ++[(D,D)]) b:=fun b nb ne ⟨p,hp,h⟩=>by
    rcases List.mem_append.mp hp with hp | hp
    · exact nb ⟨p,hp,h⟩
    · rw [List.mem_singleton.mp hp] at h
      rcases h with h | h <;> exact ne h
  have st:Step ρ s.heap (ρ++[(D,D)]) s.heap:=⟨⟨_,rfl⟩,fun b o eb f nb=>⟨eb,own b nb fun w=>by rw [w,e] at eb;cases eb;exact notF f⟩,fun b o C eb c nb=>⟨o,eb,c,own b nb fun w=>by rw [w,e] at eb;cases eb;exact notC C c⟩⟩
  have nD:∀ p∈ρ,p.1≠D /\ p.2≠D:=fun p hp=>⟨fun w=>no ⟨p,hp,.inl w.symm⟩,fun w=>no ⟨p,hp,.inr w.symm⟩⟩
  have at':∀ {i:Nat} {q:Addr × Addr},(ρ++[(D,D)])[i]?=some q -> ρ[i]?=some q \/ (i=ρ.length /\ q=(D,D)):=by
    intro i q h
    by_cases lt:i < ρ.length
    · rw [List.getElem?_append_left lt] at h;exact .inl h
    · have hl':=(List.getElem?_eq_some_iff.mp h).1
      have le:i=ρ.length:=by rw [List.length_append] at hl';simp at hl';exact o1 hl' lt
      subst le
      rw [List.getElem?_append_right (Nat.le_refl _)] at h
      simp at h
      exact .inr ⟨rfl,h.symm⟩
  refine ⟨⟨by rw [List.length_append,List.length_append,R.len];rfl,fun l ob q hl hq=>?_,fun i j q r hij hi hj=>?_,fun q hq=>?_,R.base,R.sys,R.rest⟩,?_⟩
  · rcases at' hq with hq | ⟨rfl,rfl⟩
    · have lt:l < H.length:=by rw [R.len];exact (List.getElem?_eq_some_iff.mp hq).1
      rw [List.getElem?_append_left lt] at hl
      exact (R.objs l ob q hl hq).step st fun b ob _ e=>e
    · rw [<- R.len,List.getElem?_append_right (Nat.le_refl _)] at hl
      simp at hl
      subst hl
      exact .list e (r.step st) z
  · rcases at' hi with hi' | ⟨hi',eq⟩ <;> rcases at' hj with hj' | ⟨hj',er⟩
    · exact R.apart i j q r hij hi' hj'
    · have q:=nD _ (List.mem_of_getElem? hi');rw [er];exact ⟨⟨q.1,q.1⟩,q.2,q.2⟩
    · have q:=nD _ (List.mem_of_getElem? hj');rw [eq];exact ⟨⟨q.1.symm,q.2.symm⟩,q.1.symm,q.2.symm⟩
    · exact absurd (hi'.trans hj'.symm) hij
  · rcases List.mem_append.mp hq with hq | hq
    · exact R.new q hq
    · rw [List.mem_singleton.mp hq];exact ⟨nb,nb⟩
  · rw [R.len]
    exact VR.loc (p:=(D,D)) (by rw [List.getElem?_append_right (Nat.le_refl _)];simp)
structure CInv (cx:Cx) (ρ₁:Rho) (h₁:Heap) (D I:Addr) (cenv:Env) (csc:Scope) (ns':List (Option Str)) (Γ:Env') (xs:List Val) (src:Option Nat) (i:Nat) (done:List Val) (H:Hp) (ρ:Rho) (s:Shared):Prop where
  full:Full ρ₁ h₁ ρ s.heap
  rel:Rel cx H ρ s
  env:∃ o,EnvOk cx cenv csc ns' (Γ++[o]) ρ s.heap
  it:ItOk cx xs I i ρ s.heap src
  acc:∃ vs n,s.heap.get? D=some (B1 vs n) /\ VRs cx ρ s.heap done vs
  nD:¬ A1 ρ D
  nI:¬ A1 ρ I
variable {Φ:Funs} {l:List Env} {csc:Scope} {x:Str} {cond:MEo} {elt:ME} {ifs:List Expr} {e:Expr}
noncomputable def I2 (T:Tab) (Φ:Funs) (cond:MEo) (elt:ME) (Γ:Env') (x:Val):M (Option Val):=(evalC T Φ cond (Γ++[some x])).bnd fun b=>match b with
  | true=>(Am T Φ elt (Γ++[some x])).bnd fun y=>.ret (some y)
  | false=>.ret none
theorem S6 {D:Addr} {vs:List Value} {n:Nat} {v:Value} {Q:Value -> Shared -> Prop} {E:Value -> Shared -> Prop} (g:s.heap.get? D=some (B1 vs n)) (z:vs.length <= sizeLine)
    (k:∀ h' n',h'.get? D=some (B1 (vs++[v]) n') -> Heap.SameBut D s.heap h' -> Q .none { s with heap:=h' }):wpAny (model cx.prog cx.w) A (call (.builtin "list.append") [.ref D,v]) Q E s:=by
  refine call_meets F.slot_list_append ⟨_,g,rfl⟩ F.entry_list_append (F.args_list_append_2 _ _) (list_append D vs.toArray n v (by simpa using z)) ⟨g,?_⟩
  obtain ⟨n',e⟩:=Jy vs n (fun x=>x.push v)
  refine k _ n' ?_ (Heap.SameBut.update ..)
  rw [Heap.get?_update_self _ g (by skip;rfl),e]
  simp
theorem S7 {c:Hp -> Bool} {f:Val -> M (Option Val)} {H H':Hp} {r:List Val} (h:Fe c f [] H=.ok r H'):c H=true /\ r=[] /\ H=H':=by
  have h:(if c H=true then Res.ok [] H else .bad)=Res.ok r H':=h
  by_cases q:c H=true
  · rw [if_pos q] at h;cases h;exact ⟨q,rfl,rfl⟩
  · rw [if_neg q] at h;exact Ee h
theorem Qw {c:Hp -> Bool} {f:Val -> M (Option Val)} {m:Val} {xs:List Val} {H H':Hp} {rest:List Val} (h:Fe c f (m :: xs) H=.ok rest H') :
    c H=true /\ ∃ r H3,f m H=.ok r H3 /\ ∃ rest',Fe c f xs H3=.ok rest' H' /\ rest=(match r with | some y=>y :: rest' | none=>rest'):=by
  have h:(if c H=true then ((f m).bnd fun r=>(Fe c f xs).bnd fun ys=>M.ret (match r with | some y=>y :: ys | none=>ys)) H else .bad)=.ok rest H':=h
  by_cases q:c H=true
  · rw [if_pos q] at h
    refine ⟨q,?_⟩
    cases e1:f m H with
    | bad=>rw [Df e1] at h;exact nomatch h
    | exc c H3=>rw [Fd e1] at h;exact Kx h
    | ok r H3 =>
      rw [D4 e1] at h
      cases e2:Fe c f xs H3 with
      | bad=>rw [Df e2] at h;exact nomatch h
      | exc c H4=>rw [Fd e2] at h;exact Kx h
      | ok rest' H4 =>
        rw [D4 e2] at h
        cases h
        exact ⟨r,H3,rfl,rest',e2,rfl⟩
  · rw [if_neg q] at h;exact Ee h
theorem S8 {T:Tab} {m:Val} {r:Option Val} {H H3:Hp} (h:I2 T Φ cond elt Γ m H=.ok r H3) :
    ∃ b H4,evalC T Φ cond (Γ++[some m]) H=.ok b H4 /\ ((b=false /\ r=none /\ H4=H3) \/ (b=true /\ ∃ y,Am T Φ elt (Γ++[some m]) H4=.ok y H3 /\ r=some y)):=by
  unfold I2 at h
  cases e3:evalC T Φ cond (Γ++[some m]) H with
  | bad=>rw [Df e3] at h;exact Ee h
  | exc c H4=>rw [Fd e3] at h;exact Kx h
  | ok b H4 =>
    rw [D4 e3] at h
    refine ⟨b,H4,rfl,?_⟩
    cases b with
    | false=>cases h;exact .inl ⟨rfl,rfl,rfl⟩
    | true =>
      refine .inr ⟨rfl,?_⟩
      dsimp only at h
      cases e4:Am T Φ elt (Γ++[some m]) H4 with
      | bad=>rw [Df e4] at h;exact Ee h
      | exc c H5=>rw [Fd e4] at h;exact Kx h
      | ok y H5=>rw [D4 e4] at h;cases h;exact ⟨y,rfl,rfl⟩
theorem S9 {ns':List (Option Str)} (hl:ns'.length=ns.length+1) (hx':ns'[ns.length]?=some (some x)) {ρ₁:Rho} {s₁:Shared} {D I:Addr} {cenv:Env} {xs ys:List Val} {src:Option Nat} {H₁ H₂:Hp} {px pos:Pos} {iter:Expr} {R:Result -> Shared -> Prop} (hh:A.handled=none)
    (hD:s₁.heap.get? D=none) (hI:s₁.heap.get? I=none) (hDI:D≠I) (hC:s₁.heap.get? cenv.locals=none) (hX:∀ q,csc.names.lookup x=some .cell -> cenv.cells.lookup x=some q -> s₁.heap.get? q=none)
    (hnd:∀ (i j:Nat) (y:Str),ns'[i]?=some (some y) -> ns'[j]?=some (some y) -> i=j) (hΓ:Γ.length=ns.length) (hxk:csc.names.lookup x=some .local \/ csc.names.lookup x=some .cell)
    (fr:A0 cx l ρ₁ s₁.heap) (lvB:Fh cx.h₀ s₁.heap)
    (tests:∀ Γ':Env',Γ'.length=ns'.length -> Sim cx A ((Amb.env cx cenv csc ns' Γ').and (Amb.frames cx l)) (forIn ifs true fun c r=>if r=true then do let ok <- isTrue c cenv (eval c cenv);pure (ForInStep.yield ok) else pure (ForInStep.yield r)) (evalC cx.T Φ cond Γ') BV)
    (elts:∀ Γ':Env',Γ'.length=ns'.length -> Sim cx A ((Amb.env cx cenv csc ns' Γ').and (Amb.frames cx l)) (eval e cenv) (Am cx.T Φ elt Γ') (Amb.vr cx))
    (hz:ys.length < sizeLine) {s:Shared} {ρ:Rho} (ci:CInv cx ρ₁ s₁.heap D I cenv csc ns' Γ xs src 0 [] H₁ ρ s) (hres:Fe (chk src xs) (I2 cx.T Φ cond elt Γ) xs H₁=.ok ys H₂)
    (k:∀ ρ' s',Full ρ₁ s₁.heap ρ' s'.heap -> Rel cx (H₂++[.list ys]) ρ' s' -> VR cx ρ' s'.heap (.loc H₂.length) (.ref D) -> (∃ m,s'.heap.Ns cenv.locals m) -> ¬ A1 ρ' cenv.locals -> R (.ok .next) s') :
    codeAny (model cx.prog cx.w) A (.compLoop (.ListComp e [⟨.Name x px,iter,ifs,0⟩] csc pos) 0 (.ref I) (.ref D) cenv) R s:=by
  obtain ⟨Inv,hInv⟩:∃ Inv:Nat -> Shared -> Prop,∀ n s,Inv n s↔∃ i done H ρ rest,CInv cx ρ₁ s₁.heap D I cenv csc ns' Γ xs src i done H ρ s /\ i <= xs.length /\ n=xs.length+1 - i /\
    Fe (chk src xs) (I2 cx.T Φ cond elt Γ) (xs.drop i) H=.ok rest H₂ /\ done++rest=ys:=⟨_,fun _ _=>Iff.rfl⟩
  refine codeAny_compLoop_tests Inv ?_ (xs.length+1) ((hInv _ _).mpr ⟨0,[],H₁,ρ,ys,ci,Nat.zero_le _,rfl,hres,rfl⟩)
  intro n s hin
  refine Ah fun G kG=>?_
  refine ex5 ((hInv _ _).mp hin) fun i done H ρ rest zz=>Fc zz fun ci hi hr0 hr hys=>?_
  refine ex2 ci.acc fun vs nn zz=>Ad zz fun gD rD=>?_
  obtain ⟨oo,eok⟩:=ci.env
  refine ex1 ci.it.obj fun oI zz=>Ad zz fun gI iO=>?_
  refine kG ?_
  cases hx:xs[i]? with
  | none =>
    have hlen:=List.getElem?_eq_none_iff.mp hx
    rw [List.drop_eq_nil_of_le hlen] at hr
    refine Av (S7 hr) fun ck zr1 zr2=>?_;subst zr1;subst zr2
    rw [List.append_nil] at hys
    subst hys
    refine iter_end hh ci.rel ci.it ck hx fun h' tk he=>?_
    have gD':h'.get? D=some (B1 vs nn):=he D _ hDI gD
    have st:Step ρ s.heap ρ h':=Step.ext gI he iO.not.1 iO.not.2
    have bI:cx.h₀.get? I=none:=lvB.none hI
    have R':Rel cx H ρ { s with heap:=h',toks:=tk }:=ci.rel.same st (fun b o ho eb=>he b o (fun w=>ci.nI (w▸ho)) eb) fun b o eb=>he b o (fun w=>by rw [w,bI] at eb;exact nomatch eb) (ci.rel.base b o eb)
    obtain ⟨R2,v2⟩:=Rel.adopt (s:={ s with heap:=h',toks:=tk }) R' gD' (rD.step st) (Nat.le_of_lt hz) ci.nD (lvB.none hD)
    have F2:Full ρ₁ s₁.heap ρ h':=ci.full.fresh hI he
    obtain ⟨m,hm⟩:=eok.st.loc
    have nIl:I≠cenv.locals:=eok.st.notLoc gI iO.notDict
    refine k _ _ (F2.addOwn ⟨hD,hD⟩) R2 v2 ⟨m,Bl hm fun o eo=>⟨o,he _ o (fun w=>nIl w.symm) eo,rfl⟩⟩ ?_
    intro ⟨p,hp,h⟩
    rcases List.mem_append.mp hp with hp | hp
    · exact eok.st.locN ⟨p,hp,h⟩
    · rw [List.mem_singleton.mp hp] at h
      have:cenv.locals=D:=by rcases h with h | h <;> exact h
      exact eok.st.notLoc gD (fun es k q=>by cases q) this.symm
  | some m =>
    have lt:i < xs.length:=(List.getElem?_eq_some_iff.mp hx).1
    have hdrop:xs.drop i=m :: xs.drop (i+1):=by
      rw [List.drop_eq_getElem_cons lt]
      rw [List.getElem?_eq_getElem lt] at hx
      cases hx;rfl
    rw [hdrop] at hr
    refine Ah fun G kG=>?_
    refine Ad (Qw hr) fun ck zz=>ex2 zz fun r H3 zz=>Ad zz fun e1 zz=>ex1 zz fun rest' zz=>Ad zz fun e2 hrest=>?_
    refine kG ?_
    refine Jz ci.rel ci.it ck hx fun v h' tk hs hlive kk=>?_
    obtain ⟨oI',gI'⟩:=hlive
    have st:Step ρ s.heap ρ h':=Step.but gI' gI hs iO.not.1 iO.not.2
    obtain ⟨vm,it'⟩:=kk st
    have bI:cx.h₀.get? I=none:=lvB.none hI
    have R':Rel cx H ρ { s with heap:=h',toks:=tk }:=ci.rel.but gI' gI hs iO.not.1 iO.not.2 ci.nI bI
    have ext:∀ b o,b≠I -> s.heap.get? b=some o -> h'.get? b=some o:=fun b o nb eb=>by rw [hs.2 b nb];exact eb
    have eok':EnvOk cx cenv csc ns' (Γ++[oo]) ρ h':=eok.but ext (eok.st.notLoc gI iO.notDict) (eok.st.notCell gI iO.notCell) st
    have F':Full ρ₁ s₁.heap ρ h':=ci.full.fresh hI ext
    have gD':h'.get? D=some (B1 vs nn):=ext D _ hDI gD
    have own:Ft csc ns' ns.length x=true:=(Bool.and_eq_true _ _).mpr ⟨(Bool.or_eq_true _ _).mpr (hxk.imp decide_eq_true decide_eq_true),decide_eq_true hx'⟩
    refine wpAny_assign_Name (Ej (s:={ s with heap:=h',toks:=tk }) (Γ:=Γ++[oo]) (by rw [List.length_append,hΓ,hl];rfl) hnd R' eok' own vm fun h2 tk2 FS R2 eok2 hq=>?_)
    refine Ah fun G kG=>?_
    refine ex2 hq fun q oq zz=>Av zz fun hqd hqs gq=>?_
    have set_eq:(Γ++[oo]).set ns.length (some m)=Γ++[some m]:=by
      rw [<- hΓ,List.set_append_right _ _ (Nat.le_refl _),Nat.sub_self];rfl
    rw [set_eq] at eok2
    have qfresh:s₁.heap.get? q=none:=by
      rcases hqd with ⟨_,rfl⟩ | ⟨w1,w2⟩
      · exact hC
      · exact hX q w1 w2
    have ext2:∀ b o,b≠q -> h'.get? b=some o -> h2.get? b=some o:=fun b o nb eb=>by rw [hqs.2 b nb];exact eb
    have F2:Full ρ₁ s₁.heap ρ h2:=F'.fresh qfresh ext2
    have qD:D≠q:=by
      rcases hqd with ⟨_,rfl⟩ | ⟨w1,w2⟩
      · exact eok'.st.notLoc gD' (fun es k q=>by cases q)
      · exact fun w=>eok'.st.notCell gD' (fun v q=>by cases q) x (w▸w2)
    refine ex1 it'.obj fun oI2 zz=>Ad zz fun gI2 iO2=>?_
    refine kG ?_
    have qI:I≠q:=by
      rcases hqd with ⟨_,rfl⟩ | ⟨w1,w2⟩
      · exact eok'.st.notLoc gI2 iO2.notDict
      · exact fun w=>eok'.st.notCell gI2 iO2.notCell x (w▸w2)
    have St2:Step ρ h' ρ h2:=FullS.step eok'.st FS
    have it2:ItOk cx xs I (i+1) ρ h2 src:=it'.step St2 fun o eo=>ext2 I o qI eo
    have rD2:VRs cx ρ h2 done vs:=(rD.step st).step St2
    have gD2:h2.get? D=some (B1 vs nn):=ext2 D _ qD gD'
    have lenG:(Γ++[some m]).length=ns'.length:=by rw [List.length_append,hΓ,hl];rfl
    -- the tests
    refine ex2 (S8 e1) fun b H4 zz=>Ad zz fun e3 e4=>?_
    have T:=tests (Γ++[some m]) lenG H ρ { s with heap:=h2,toks:=tk2 } R2 ⟨eok2,fr.full F2⟩
    rw [e3] at T
    refine wpAny_mono T (fun b' s3 ⟨ρ3,F3,R3,hb⟩=>?_) fun _ _ q=>q.elim
    have hb':b'=b:=hb
    refine Eq.symm hb'▸?_
    have F3':Full ρ₁ s₁.heap ρ3 s3.heap:=F2.trans F3
    have gD3:s3.heap.get? D=some (B1 vs nn):=F3.keep.exact gD2 ci.nD (fun es k q=>by cases q)
    have nD3:¬ A1 ρ3 D:=F3.grow.not ci.nD gD2
    refine ex1 it2.obj fun oI3 zz=>Ad zz fun gI3 iO3=>?_
    have it3:ItOk cx xs I (i+1) ρ3 s3.heap src:=it2.step F3.step fun o eo=>by
      rw [gI3] at eo;cases eo
      exact F3.keep.exact gI3 ci.nI iO3.notDict
    have nI3:¬ A1 ρ3 I:=F3.grow.not ci.nI gI3
    have rD3:VRs cx ρ3 s3.heap done vs:=rD2.step F3.step
    have eok3:EnvOk cx cenv csc ns' (Γ++[some m]) ρ3 s3.heap:=eok2.full F3
    rcases e4 with ⟨rfl,rfl,rfl⟩ | ⟨rfl,y,e4,rfl⟩
    · skip
      exact ⟨xs.length+1 - (i+1),by exact o33 lt hr0,(hInv _ _).mpr ⟨i+1,done,H4,ρ3,rest',⟨F3',R3,⟨_,eok3⟩,it3,⟨vs,nn,gD3,rD3⟩,nD3,nI3⟩,lt,rfl,e2,by rw [<- hys,hrest]⟩⟩
    · skip
      have T2:=elts (Γ++[some m]) lenG H4 ρ3 s3 R3 ⟨eok3,fr.full F3'⟩
      rw [e4] at T2
      refine wpAny_mono T2 (fun yv s4 ⟨ρ4,F4,R4,hy⟩=>?_) fun _ _ q=>q.elim
      have F4':Full ρ₁ s₁.heap ρ4 s4.heap:=F3'.trans F4
      have gD4:s4.heap.get? D=some (B1 vs nn):=F4.keep.exact gD3 nD3 (fun es k q=>by cases q)
      have nD4:¬ A1 ρ4 D:=F4.grow.not nD3 gD3
      refine ex1 it3.obj fun oI4 zz=>Ad zz fun gI4 iO4=>?_
      have it4:ItOk cx xs I (i+1) ρ4 s4.heap src:=it3.step F4.step fun o eo=>by
        rw [gI4] at eo;cases eo
        exact F4.keep.exact gI4 nI3 iO4.notDict
      have nI4:¬ A1 ρ4 I:=F4.grow.not nI3 gI4
      have rD4:VRs cx ρ4 s4.heap done vs:=rD3.step F4.step
      have eok4:=eok3.full F4
      have hlenD:vs.length < sizeLine:=by
        rw [<- rD.length]
        have:ys.length=done.length+rest.length:=by rw [<- hys,List.length_append]
        have:done.length < ys.length:=by rw [this,hrest];simp
        omega
      refine S6 gD4 (Nat.le_of_lt hlenD) fun h5 n5 gD5 hs5=>?_
      have St5:Step ρ4 s4.heap ρ4 h5:=Step.but gD5 gD4 hs5 E6.1 E6.2
      have ext5:∀ b o,b≠D -> s4.heap.get? b=some o -> h5.get? b=some o:=fun b o nb eb=>by rw [hs5.2 b nb];exact eb
      have R5:Rel cx H3 ρ4 { s4 with heap:=h5 }:=R4.but (tk:=s4.toks) gD5 gD4 hs5 E6.1 E6.2 nD4 (lvB.none hD)
      refine ⟨xs.length+1 - (i+1),by exact o33 lt hr0,(hInv _ _).mpr ⟨i+1,done++[y],H3,ρ4,rest',⟨F4'.fresh hD ext5,R5,⟨_,eok4.but ext5 (eok4.st.notLoc gD4 (fun es k q=>by cases q)) (eok4.st.notCell gD4 (fun v q=>by cases q)) St5⟩,it4.step St5 fun o eo=>ext5 I o (fun w=>hDI w.symm) eo,⟨_,_,gD5,(rD4.step St5).append (.one (hy.step St5))⟩,nD4,nI4⟩,lt,rfl,e2,?_⟩⟩
      rw [<- hys,hrest,List.append_assoc];rfl
end
theorem Es {i:Expr} (h:D6 i=true) (env:Env) (x:Value):foldedSetIterable i env x=pure x:=by
  cases i <;> first | rfl | exact Aq h
section
variable {cx:Cx} {N:Names} {A:Around} {env:Env} {sc csc:Scope} {ns:List (Option Str)} {Γ:Env'} {H:Hp} {ρ ρ':Rho} {s:Shared} {Φ:Funs} {l:List Env} {x:Str} {cond:MEo} {elt:ME} {ifs:List Expr} {e:Expr}
theorem Rel.ext (R:Rel cx H ρ s) {h':Heap} {tk:Nat} {a:Addr} {o:Obj} (e:s.heap.get? a=some o) (hs:Heap.ExtBut a s.heap h') (n1:¬ Fx o) (n2:∀ C,¬ Dq o C) (no:¬ A1 ρ a) (nb:cx.h₀.get? a=none) :
    Rel cx H ρ { s with heap:=h',toks:=tk } :=
  R.same (Step.ext e hs n1 n2) (fun b ob ho eb=>hs b ob (fun q=>no (q▸ho)) eb) fun b ob eb=>hs b ob (fun q=>by subst q;rw [nb] at eb;cases eb) (R.base b ob eb)
theorem Ta {xs:List Val} {I:Addr} {i:Nat} {src:Option Nat} (x:ItOk cx xs I i ρ s.heap src) {Q:Value -> Shared -> Prop} {E:Value -> Shared -> Prop} (k:Q (.ref I) s):wpAny (model cx.prog cx.w) A (pyIter (.ref I)) Q E s:=by
  cases x with
  | list hp hi=>exact wpAny_pyIter_listiter hi k
  | rng e hi=>exact wpAny_pyIter_rangeiter hi k
structure CParts (cx:Cx) (A:Around) (Φ:Funs) (l:List Env) (csc:Scope) (ns':List (Option Str)) (cond:MEo) (elt:ME) (ifs:List Expr) (e:Expr):Prop where
  tests:∀ (cenv:Env) (Γ':Env'),Γ'.length=ns'.length -> Sim cx A ((Amb.env cx cenv csc ns' Γ').and (Amb.frames cx l)) (forIn ifs true fun c r=>if r=true then do let ok <- isTrue c cenv (eval c cenv);pure (ForInStep.yield ok) else pure (ForInStep.yield r)) (evalC cx.T Φ cond Γ') BV
  elts:∀ (cenv:Env) (Γ':Env'),Γ'.length=ns'.length -> Sim cx A ((Amb.env cx cenv csc ns' Γ').and (Amb.frames cx l)) (eval e cenv) (Am cx.T Φ elt Γ') (Amb.vr cx)
theorem F6 (hnd:∀ (i j:Nat) (y:Str),ns[i]?=some (some y) -> ns[j]?=some (some y) -> i=j) (hx:csc.names.lookup x=some .local \/ csc.names.lookup x=some .cell) :
    ∀ (i j:Nat) (y:Str),(Ep csc ns++[some x])[i]?=some (some y) -> (Ep csc ns++[some x])[j]?=some (some y) -> i=j:=by
  have lenN:(Ep csc ns).length=ns.length:=by unfold Ep;rw [List.length_map]
  have at':∀ (i:Nat) (y:Str),(Ep csc ns++[some x])[i]?=some (some y) -> (ns[i]?=some (some y) /\ csc.names.lookup y=some .free) \/ (i=ns.length /\ y=x):=by
    intro i y h
    by_cases lt:i < ns.length
    · rw [List.getElem?_append_left (by rw [lenN];exact lt)] at h
      exact .inl (Pq h)
    · rw [List.getElem?_append_right (by rw [lenN];exact o32 lt),lenN] at h
      cases q:i - ns.length with
      | zero=>rw [q] at h;simp at h;exact .inr ⟨by exact o34 q lt,h.symm⟩
      | succ n=>rw [q] at h;simp at h
  intro i j y hi hj
  rcases at' i y hi with ⟨a1,a2⟩ | ⟨a1,a2⟩ <;> rcases at' j y hj with ⟨b1,b2⟩ | ⟨b1,b2⟩
  · exact hnd i j y a1 b1
  · subst b2;rcases hx with w | w <;> rw [w] at a2 <;> cases a2
  · subst a2;rcases hx with w | w <;> rw [w] at b2 <;> cases b2
  · exact o35 a1 b1
theorem Lc (hh:A.handled=none) (hc:Jx sc csc x=true) (hnd:∀ (i j:Nat) (y:Str),ns[i]?=some (some y) -> ns[j]?=some (some y) -> i=j) (hΓ:Γ.length=ns.length)
    (pt:CParts cx A Φ l csc (Ep csc ns++[some x]) cond elt ifs e)
    {v:Val} {xv:Value} {xs ys:List Val} {src:Option Nat} {H₂:Hp} {px pos:Pos} {iter:Expr} {RR:Value -> Addr -> Result -> Shared -> Prop} {E:Value -> Shared -> Prop}
    (R:Rel cx H ρ s) (e0:EnvOk cx env sc ns Γ ρ s.heap) (fr:A0 cx l ρ s.heap) (vr:VR cx ρ s.heap v xv) (hit:Cr v H=some (xs,src)) (hres:Fe (chk src xs) (I2 cx.T Φ cond elt Γ) xs H=.ok ys H₂) (hz:ys.length < sizeLine)
    (k:∀ D C ρ' s',Full ρ s.heap ρ' s'.heap -> Rel cx (H₂++[.list ys]) ρ' s' -> VR cx ρ' s'.heap (.loc H₂.length) (.ref D) -> (∃ m,s'.heap.Ns C m) -> ¬ A1 ρ' C -> s.heap.get? C=none -> RR (.ref D) C (.ok .next) s') :
    wpAny (model cx.prog cx.w) A (pyIter xv) (fun it s₂=>wpAny (model cx.prog cx.w) A (newList []) (fun acc s₃=>wpAny (model cx.prog cx.w) A (newFunctionEnv csc env.globals (Fu env csc.names []) [] env.qual none .none (some env)) (fun cenv s₄ =>
      codeAny (model cx.prog cx.w) A (.compStart (.ListComp e [⟨.Name x px,iter,ifs,0⟩] csc pos) 0 it acc { cenv with scope:=relabel csc env }) (RR acc cenv.locals) s₄) E s₃) E s₂) E s:=by
  refine Av (B2 hc) fun c1 c2 c3=>?_
  have lvB:Fh cx.h₀ s.heap:=fun b o e=>⟨o,R.base b o e⟩
  refine Ig R vr hit fun o go it0=>?_
  refine wpAny_newObj_type ?_
  refine I9 _ ?_
  -- the three heaps
  generalize hs1:({ s with heap:=s.heap.push o }:Shared)=s1 at it0
  have h1:s1.heap=s.heap.push o:=by rw [<- hs1]
  have F1:Full ρ s.heap ρ s1.heap:=by rw [h1];exact Full.push _ _ _
  have R1:Rel cx H ρ s1:=by rw [<- hs1];exact R.push o s.toks
  generalize hs2:({ s1 with heap:=s1.heap.push (B1 [] 0) }:Shared)=s2
  have h2:s2.heap=s1.heap.push (B1 [] 0):=by rw [<- hs2]
  have F2:Full ρ s1.heap ρ s2.heap:=by rw [h2];exact Full.push _ _ _
  have R2:Rel cx H ρ s2:=by rw [<- hs2];exact R1.push (B1 [] 0) s1.toks
  have z1:s1.heap.objs.size=s.heap.objs.size+1:=by rw [h1,Heap.size_push]
  have z2:s2.heap.objs.size=s.heap.objs.size+2:=by rw [h2,Heap.size_push,z1]
  have F12:Full ρ s.heap ρ s2.heap:=F1.trans F2
  have e2:EnvOk cx env sc ns Γ ρ s2.heap:=e0.full F12
  obtain ⟨ce,cf⟩:=Wx R2 e2 hc hΓ
  have F3:Full ρ s2.heap ρ (Cz csc s2.heap):=Full.more (Ci csc s2.heap)
  have R3:Rel cx H ρ { s2 with heap:=Cz csc s2.heap }:=R2.more (tk:=s2.toks) (Ci csc s2.heap)
  have hDn:s.heap.get? s1.heap.objs.size=none:=Hh (by rw [z1];exact Nat.le_succ _)
  have hIn:s.heap.get? s.heap.objs.size=none:=Ar _
  have hCn:s.heap.get? s2.heap.objs.size=none:=Hh (by rw [z2];exact Nat.le_add_right _ _)
  have gD2:s2.heap.get? s1.heap.objs.size=some (B1 [] 0):=by rw [h2];exact Heap.get?_push_size _ rfl
  have it1:ItOk cx xs s.heap.objs.size 0 ρ s1.heap src:=by rw [h1];exact it0
  have go1:s1.heap.get? s.heap.objs.size=some o:=by rw [h1];exact go
  have it3:ItOk cx xs s.heap.objs.size 0 ρ (Cz csc s2.heap) src:=(it1.step F2.step fun o' eo=>by rw [h2];exact Heap.get?_push_of_some _ eo).step F3.step (Ci csc s2.heap _)
  have ci:CInv cx ρ s.heap s1.heap.objs.size s.heap.objs.size (Fk csc env s2.heap.objs.size) csc (Ep csc ns++[some x]) Γ xs src 0 [] H ρ { s2 with heap:=Cz csc s2.heap } :=
    ⟨F12.trans F3,R3,⟨none,ce⟩,it3,⟨[],0,Ci csc s2.heap _ _ gD2,.nil⟩,R.fresh_not hDn,R.fresh_not hIn⟩
  have loop:codeAny (model cx.prog cx.w) A (.compLoop (.ListComp e [⟨.Name x px,iter,ifs,0⟩] csc pos) 0 (.ref s.heap.objs.size) (.ref s1.heap.objs.size) (Fk csc env s2.heap.objs.size)) (RR (.ref s1.heap.objs.size) s2.heap.objs.size) { s2 with heap:=Cz csc s2.heap }:=by
    have lenN:(Ep csc ns).length=ns.length:=by unfold Ep;rw [List.length_map]
    refine S9 (by rw [List.length_append,lenN];rfl) (by rw [List.getElem?_append_right (by rw [lenN];exact Nat.le_refl _),lenN,Nat.sub_self];rfl) (s₁:=s) (ρ₁:=ρ) (l:=l) hh hDn hIn (by rw [z1];exact Nat.succ_ne_self _) hCn (fun q w1 w2=>?_) (F6 hnd c2) hΓ c2 fr lvB (fun Γ' h'=>pt.tests _ Γ' h') (fun Γ' h'=>pt.elts _ Γ' h') hz ci hres fun ρ' s' F' R' v' m' n'=>?_
    · have:=cf q w1 w2
      cases g:s.heap.get? q with
      | none=>rfl
      | some ob =>
        obtain ⟨o',eo'⟩:=F12.live q ob g
        rw [this] at eo';exact Ae eo'
    · exact k _ _ ρ' s' F' R' v' m' n' hCn
  have key:=codeAny_compStart_list loop (Ta (ρ:=ρ) (s:={ s2 with heap:=Cz csc s2.heap }) it3 loop)
  refine Eq.symm hs2▸?_
  exact key
theorem Ho {E E':Value -> Shared -> Prop} {use:Option (Value -> Sem Unit)} {Q Q':Value -> Shared -> Prop} {acc:Value} {C:Addr} {r:Result} {s':Shared} {M:Model} (h:compPost M A E use Q acc C r s') (k1:∀ a s,Q a s -> Q' a s) (k2:∀ e s,E e s -> E' e s):compPost M A E' use Q' acc C r s':=by
  unfold compPost at h ⊢
  cases r with
  | ok f =>
    cases use with
    | none=>refine ex1 h fun m zz=>Ad zz fun hm h=>?_;exact ⟨m,hm,fun h' hs=>k1 _ _ (h h' hs)⟩
    | some u=>exact wpAny_mono h (fun _ s'' ⟨m,hm,h⟩=>⟨m,hm,fun h' hs=>k1 _ _ (h h' hs)⟩) k2
  | error x =>
    cases use with
    | none=>refine ex1 h fun m zz=>Ad zz fun hm h=>?_;exact ⟨m,hm,fun h' hs c hc=>wpAny_mono (h h' hs c hc) (fun _ _ q=>q) k2⟩
    | some u=>refine ex1 h fun m zz=>Ad zz fun hm h=>?_;exact ⟨m,hm,fun h' hs c hc=>wpAny_mono (h h' hs c hc) (fun _ _ q=>q) k2⟩
theorem Wy {α:Type} {m:M α} {H H':Hp} {a:α} (h:M.quiet m H=.ok a H'):m H=.ok a H':=by
  delta M.quiet at h
  cases e:m H with
  | exc c K=>rw [e] at h;exact Ee h
  | _=>rw [e] at h;exact h
theorem Tb {α:Type} {m:M α} {H H':Hp} {c:Nat} (h:M.quiet m H=.exc c H'):False:=by
  delta M.quiet at h
  cases e:m H with
  | _=>rw [e] at h;cases h
noncomputable def Jd (T:Tab) (Φ:Funs) (cond:MEo) (elt:ME) (Γ:Env') (v:Val):M Val:=(M.look (Cr v)).bnd fun p =>
  (M.quiet (Fe (chk p.2 p.1) (I2 T Φ cond elt Γ) p.1)).bnd fun ys=>if ys.length < lid then M.alloc (.list ys) else .bad
theorem Nb (T:Tab) (Φ:Funs) (cond:MEo) (elt it:ME) (Γ:Env'):Am T Φ (.comp elt it cond) Γ=(Am T Φ it Γ).bnd (Jd T Φ cond elt Γ):=by
  rfl
theorem Gw {T:Tab} {Φ:Funs} {cond:MEo} {elt:ME} {Γ:Env'} {v:Val} {H:Hp}:Jd T Φ cond elt Γ v H=.bad \/
    ∃ xs src ys H₂,Cr v H=some (xs,src) /\ Fe (chk src xs) (I2 T Φ cond elt Γ) xs H=.ok ys H₂ /\ ys.length < sizeLine /\ Jd T Φ cond elt Γ v H=.ok (.loc H₂.length) (H₂++[.list ys]):=by
  unfold Jd
  cases e1:Cr v H with
  | none=>left;rw [Df (F5 e1)]
  | some p =>
    rw [D4 (Fz e1)]
    obtain ⟨xs,src⟩:=p
    dsimp only
    cases e2:M.quiet (Fe (chk src xs) (I2 T Φ cond elt Γ) xs) H with
    | bad=>left;rw [Df e2]
    | exc c H'=>exact (Tb e2).elim
    | ok ys H₂ =>
      rw [D4 e2]
      by_cases q:ys.length < lid
      · right
        refine ⟨xs,src,ys,H₂,rfl,Wy e2,by skip;exact q,?_⟩
        rw [if_pos q];rfl
      · left;rw [if_neg q];rfl
theorem Tc {h:Heap} {C:Addr} {m:Str -> Option Value} (n:h.Ns C m):∃ o,h.get? C=some o /\ ¬ Fx o /\ ∀ D,¬ Dq o D:=by
  refine Ah fun G kG=>?_
  refine ex3 n fun o es ep zz=>Av zz fun e d _=>?_
  refine kG ?_
  exact ⟨o,e,fun f=>f.notDict _ _ d,fun D f=>f.notDict _ _ d⟩
theorem Wz (hh:A.handled=none) {it:ME} {i:Expr} {px pos:Pos} (hi:D6 i=true) (hc:Jx sc csc x=true) (hnd:∀ (i j:Nat) (y:Str),ns[i]?=some (some y) -> ns[j]?=some (some y) -> i=j) (hΓ:Γ.length=ns.length)
    (pt:CParts cx A Φ l csc (Ep csc ns++[some x]) cond elt ifs e) (y:EOk cx A ((Amb.env cx env sc ns Γ).and (Amb.frames cx l)) Φ env Γ it i) :
    EOk cx A ((Amb.env cx env sc ns Γ).and (Amb.frames cx l)) Φ env Γ (.comp elt it cond) (.ListComp e [⟨.Name x px,i,ifs,0⟩] csc pos):=by
  refine Av (B2 hc) fun c1 c2 c3=>?_
  refine EOk.of ?_ rfl
  intro H ρ s R p
  rw [Nb]
  refine Bg.bindK (K':=fun Q E s=>wpAny (model cx.prog cx.w) A (eval (.ListComp e [⟨.Name x px,i,ifs,0⟩] csc pos) env) Q E s)
    (K:=fun xv Q E s=>wpAny (model cx.prog cx.w) A (pyIter xv) (fun it s₂=>wpAny (model cx.prog cx.w) A (newList []) (fun acc s₃=>wpAny (model cx.prog cx.w) A (newFunctionEnv csc env.globals (Fu env csc.names []) [] env.qual none .none (some env)) (fun cenv s₄ =>
      codeAny (model cx.prog cx.w) A (.compStart (.ListComp e [⟨.Name x px,i,ifs,0⟩] csc pos) 0 it acc { cenv with scope:=relabel csc env }) (compPost (model cx.prog cx.w) A E none Q acc cenv.locals) s₄) E s₃) E s₂) E s) (y.val H ρ s R p) ?_ ?_ ?_
  · intro b xv H1 ρ1 s1 _ F1 R1 vr
    rcases Gw (T:=cx.T) (Φ:=Φ) (cond:=cond) (elt:=elt) (Γ:=Γ) (v:=b) (H:=H1) with w | ⟨xs,src,ys,H₂,w1,w2,w3,w4⟩
    · rw [w];trivial
    · rw [w4]
      refine Lc hh hc hnd hΓ pt R1 (p.1.full F1) (p.2.full F1) vr w1 w2 w3 fun D C ρ' s' F' R' v' m' n' hC=>?_
      refine Ah fun G kG=>?_
      obtain ⟨m,hm⟩:=m'
      refine ex1 (Tc hm) fun oC zz=>Av zz fun gC nf nx=>?_
      refine kG ?_
      have lvB:Fh cx.h₀ s1.heap:=fun b o e=>⟨o,R1.base b o e⟩
      refine ⟨m,hm,fun h' hs=>?_⟩
      have st:Step ρ' s'.heap ρ' h':=Step.ext gC hs.extBut nf nx
      exact ⟨ρ',F'.fresh hC hs.extBut,R'.ext (tk:=s'.toks) gC hs.extBut nf nx n' (lvB.none hC),v'.step st⟩
  · intro xv Q E Q' E' s h k1 k2
    exact wpAny_mono h (fun it s₂ h2=>wpAny_mono h2 (fun acc s₃ h3=>wpAny_mono h3 (fun cenv s₄ h4=>codeAny_mono h4 fun r s' hr=>Ho hr k1 k2) k2) k2) k2
  · intro Q E h
    exact wpAny_comprehension_free (use:=none) (g:=⟨.Name x px,i,ifs,0⟩) (gs:=[]) rfl (fun xv=>Es hi env xv)
      (Hn fun p' hp' hf=>p.1.st.hasCell p'.1 (by rcases (c3 p' hp').2 hf with w | w;exact .inl w;exact .inr w)) c1 (fun p' hp' hl=>by rw [(c3 p' hp').1,hl]) h
end
section
variable {cx:Cx} {N:Names} {A:Around} {Φ:Funs} {l:List Env} {d:Nat} {env:Env} {sc:Scope} {ns:List (Option Str)} {Γ:Env'} {H:Hp} {ρ:Rho} {s:Shared}
theorem VR.handed {m:Val} {v:Value} {h:Heap} (x:VR cx ρ h m v):handedOut v=pure v:=by cases x <;> rfl
theorem Rel.instAt (R:Rel cx H ρ s) {i c:Nat} {fs:List (Nat × Val)} {p:Addr × Addr} (hH:H[i]?=some (.inst c fs)) (hρ:ρ[i]?=some p) :
    ∃ C o mA,(cx.T.meth c 0).isSome=true /\ cx.cls[c]?=some (.ref C) /\ s.heap.get? p.1=some o /\ o.cls=.ref C /\ (∀ c,o.data≠.cls c) /\ o.dict=some p.2 /\ p.2≠p.1 /\ s.heap.Ns1 p.2 mA /\
      (∀ n v,fs.lookup n=some v -> ∃ y x,cx.attrs[n]?=some y /\ mA y=some x /\ VR cx ρ s.heap v x) /\ (∀ y,mA y≠none -> ∃ n v,cx.attrs[n]?=some y /\ fs.lookup n=some v):=by
  have:=R.objs i _ p hH hρ
  generalize ho:HObj.inst c fs=o at this
  cases this with
  | list _ _ _=>exact nomatch ho
  | dict _ _ _=>cases ho
  | hid _=>cases ho
  | inst k0 k e k1 k2 k3 k4 n f g=>cases ho;exact ⟨_,_,_,k0,k,e,k1,k2,k3,k4,n,f,g⟩
theorem Ol {h:Heap} {a b C:Addr} {o:Obj} {mA:Str -> Option Value} (e:h.get? a=some o) (k1:o.cls=.ref C) (k2:∀ c,o.data≠.cls c) (k3:o.dict=some b) (k4:b≠a) (n:h.Ns1 b mA):h.Inst a C mA :=
  ⟨o,e,k1,k2,.inr ⟨b,k3,k4,n⟩⟩
theorem Gs.looks {α β:Type} {f:Hp -> Option β} {K:(α -> Shared -> Prop) -> (Value -> Shared -> Prop) -> Shared -> Prop} {V:β -> α -> Amb} (y:∀ b,f H=some b -> Gs cx (.ok b H) K V ρ s):Gs cx (M.look f H) K V ρ s:=by
  cases e:f H with
  | none=>rw [F5 e];trivial
  | some b=>rw [Fz e];exact y b e
theorem Qx (CB:ClsBase cx N) (R:Rel cx H ρ s) {i c n:Nat} {fs:List (Nat × Val)} {p:Addr × Addr} {y:Str} {m:Val} (hH:H[i]?=some (.inst c fs)) (hρ:ρ[i]?=some p) (hy:cx.attrs[n]?=some y) (hm:fs.lookup n=some m) {Q:Value -> Shared -> Prop} {E:Value -> Shared -> Prop}
    (k:∀ v tk,VR cx ρ s.heap m v -> Q v { s with toks:=tk }):wpAny (model cx.prog cx.w) A (getAttr (.ref p.1) y true) Q E s:=by
  refine Ah fun G kG=>?_
  refine ex3 (R.instAt hH hρ) fun C o mA zz=>Z7 zz fun k0 kc e k1 k2 k3 k4 nn f g=>?_
  refine V3 ((CB.cls c C kc k0).is) fun nm q Nn bs sn sub col dd q0 q1 q2 q3 q5 mN zz=>Mu zz fun hC hN h1 h2 h3 h4 h5=>?_
  refine ex2 (f n m hm) fun y' x zz=>Av zz fun hy' hx vr=>?_
  refine kG ?_
  rw [hy] at hy';cases hy'
  exact load_attr (R.base _ _ hC) (hN.keeps R.base) h1 (h4 n y hy).1 (h4 n y hy).2 (Ol e k1 k2 k3 k4 nn) hx vr.handed (k x _ vr)
set_option tactic.hygienic true in
theorem W0 (CB:ClsBase cx N) {P:Amb} {a:ME} {n:Nat} {v:Expr} {y:Str} {pos:Pos} (hn:D8 N.attrs y n=true) (hs:Cu v=true) (x:EOk cx A P Φ env Γ a v) :
    EOk cx A P Φ env Γ (.attr a n) (.Attribute v y pos):=by
  refine EOk.of ?_ rfl
  intro H ρ s R p
  refine Bg.bindK (K':=fun Q E s=>wpAny (model cx.prog cx.w) A (eval (.Attribute v y pos) env) Q E s) (K:=fun o Q E s=>wpAny (model cx.prog cx.w) A (getAttr o y true) Q E s) (x.val H ρ s R p) ?_ (fun _=>Jc _) ?_
  · intro b o H1 ρ1 s1 _ F1 R1 vr
    have vr':VR cx ρ1 s1.heap b o:=vr
    refine Gs.looks fun m hm=>?_
    split at hm
    · rename_i i
      refine ex1 vr'.loc_inv fun p1 zz=>Ad zz fun hp1 hr0=>?_;refine Eq.symm hr0▸?_
      split at hm
      · rename_i c fs hi
        exact Qx CB R1 hi hp1 (CB.attr y n (Cw hn)) hm fun v tk vr=>⟨ρ1,Full.refl _ _,R1.toks tk,vr⟩
      · exact Ae hm
    · exact Ae hm
  · intro Q E h
    rw [arm_eval_Attribute,Dz hs]
    exact wpAny_bind (wpAny_mono h (fun o s₁ h₁=>wpAny_bind (wpAny_standAt (wpAny_bind (wpAny_holding (wpAny_mono h₁ (fun r s₂ h₂=>wpAny_bind (wpAny_letTemporaryGo (wpAny_pure h₂))) fun _ _ q=>q))))) fun _ _ q=>q)
theorem J0:∀ (fs:List (Nat × Val)) (n:Nat) (v:Val),(Rx fs n v).lookup n=some v
  | [],n,v=>by
    show List.lookup n [(n,v)]=_
    simp
  | (m,u) :: r,n,v=>by
    rw [Mv]
    by_cases e:m=n
    · rw [if_pos e,e];simp
    · rw [if_neg e,List.lookup_cons]
      have:(n == m)=false:=by simpa using fun q:n=m=>e q.symm
      rw [this];exact J0 r n v
theorem Ih:∀ (fs:List (Nat × Val)) (n k:Nat) (v:Val),k≠n -> (Rx fs n v).lookup k=fs.lookup k
  | [],n,k,v,h=>by
    have:(k == n)=false:=by simpa using h
    show List.lookup k [(n,v)]=none
    rw [List.lookup_cons,this];rfl
  | (m,u) :: r,n,k,v,h=>by
    rw [Mv]
    by_cases e:m=n
    · rw [if_pos e,e,List.lookup_cons,List.lookup_cons]
      have:(k == n)=false:=by simpa using h
      rw [this]
    · rw [if_neg e,List.lookup_cons,List.lookup_cons,Ih r n k v h]
theorem Qy (CB:ClsBase cx N) (R:Rel cx H ρ s) {i c n:Nat} {fs:List (Nat × Val)} {p:Addr × Addr} {y:Str} {m:Val} {v:Value} (hH:H[i]?=some (.inst c fs)) (hρ:ρ[i]?=some p) (hy:cx.attrs[n]?=some y) (vr:VR cx ρ s.heap m v) {Q:Unit -> Shared -> Prop} {E:Value -> Shared -> Prop}
    (k:∀ s',Full ρ s.heap ρ s'.heap -> Rel cx (H.set i (.inst c (Rx fs n m))) ρ s' -> Q () s'):wpAny (model cx.prog cx.w) A (setAttr (.ref p.1) y v) Q E s:=by
  refine Ah fun G kG=>?_
  refine ex3 (R.instAt hH hρ) fun C o mA zz=>Z7 zz fun k0 kc e k1 k2 k3 k4 nn f g=>?_
  refine V3 ((CB.cls c C kc k0).is) fun nm q Nn bs sn sub col dd q0 q1 q2 q3 q5 mN zz=>Mu zz fun hC hN h1 h2 h3 h4 h5=>?_
  refine kG ?_
  have hxC:p.1≠C:=fun w=>by have:=(R.new p (List.mem_of_getElem? hρ)).1;rw [w,hC] at this;cases this
  refine store_attr F.store_object (R.base _ _ hC) (hN.keeps R.base) h3 (h4 n y hy).1 (h4 n y hy).2 hxC (Ol e k1 k2 k3 k4 nn) (fun h' tk' I' hk hsame=>?_)
    (ns:=cx.attrs) (fun z hz=>by refine ex2 (g z hz) fun j _ zz=>Ad zz fun hj _=>?_;exact List.mem_of_getElem? hj) CB.few
  refine Ah fun G kG=>?_
  refine ex1 (hsame o e) fun o₁ zz=>Fc zz fun e1 c1 d1 _ dd1=>?_
  refine ex1 I' fun o₂ zz=>Cg zz fun e2 c2 n2 hd2=>?_
  refine kG ?_
  rw [e1] at e2;cases e2
  have nn':h'.Ns1 p.2 (fun z=>if z=y then some v else mA z):=by
    rcases hd2 with ⟨w,_⟩ | ⟨b,w,_,w2⟩
    · rw [dd1 _ k3] at w;cases w
    · rw [dd1 _ k3] at w;cases w;exact w2
  have keep:∀ b ob,s.heap.get? b=some ob -> b≠p.1 -> b≠p.2 -> h'.get? b=some ob:=fun b ob eb w1 w2=>hk b ob w1 (fun o₀ dx f1 f2=>by rw [e] at f1;cases f1;rw [k3] at f2;cases f2;exact w2) eb
  have lv:Fh s.heap h':=fun b ob eb=>by
    by_cases w1:b=p.1
    · rw [w1];exact ⟨o₁,e1⟩
    · by_cases w2:b=p.2
      · refine ex3 nn' fun on _ _ zz=>Ad zz fun en _=>?_;rw [w2];exact ⟨on,en⟩
      · exact ⟨ob,keep b ob eb w1 w2⟩
  have own:∀ b,¬ A1 ρ b -> b≠p.1 /\ b≠p.2:=fun b n=>⟨fun e=>n ⟨p,List.mem_of_getElem? hρ,.inl e⟩,fun e=>n ⟨p,List.mem_of_getElem? hρ,.inr e⟩⟩
  have F:Full ρ s.heap ρ h':=⟨Ks.refl _ _,fun b ob eb n=>⟨ob,keep b ob eb (own b n).1 (own b n).2,.refl ob⟩,lv⟩
  obtain ⟨_,R'⟩:=R.set (tk:=tk') (o:=.inst c (Rx fs n m)) hρ keep lv (by
    obtain ⟨p1,p2⟩:=p
    refine .inst k0 kc e1 (c1.trans k1) n2 (dd1 _ k3) k4 nn' (fun j u hj=>?_) (fun z hz=>?_)
    · by_cases w:j=n
      · subst w
        rw [J0] at hj;cases hj
        exact ⟨y,v,hy,by simp,vr.step F.step⟩
      · rw [Ih _ _ _ _ w] at hj
        refine ex2 (f j u hj) fun y' x zz=>Av zz fun hy' hx vx=>?_
        have ne:y'≠y:=fun q=>w (CB.inj j n y (q▸hy') hy)
        exact ⟨y',x,hy',by simp [ne,hx],vx.step F.step⟩
    · by_cases w:z=y
      · exact ⟨n,m,w▸hy,J0 _ _ _⟩
      · simp only [w,if_false] at hz
        refine ex2 (g z hz) fun j u zz=>Ad zz fun hj hu=>?_
        have ne:j≠n:=fun q=>w (by rw [q,hy] at hj;cases hj;rfl)
        exact ⟨j,u,hj,by rw [Ih _ _ _ _ ne];exact hu⟩)
  exact k _ F R'
theorem Kv {o:Expr} {name:Str} {apos pos:Pos} {args:List Expr} {Q:Value -> Shared -> Prop} {E:Value -> Shared -> Prop} (hs:Cu o=true) (hp:Cd env args) (hz:args.length <= 20) (hline:(apos.endLine == pos.line)=true)
    (h:wpAny (model cx.prog cx.w) A (eval o env) (fun ov s₁=>∀ pl,wpAny (model cx.prog cx.w) A (getMethod ov name pl) (fun r s₂=>wpAny (model cx.prog cx.w) A (callWith pos r.1 r.2 (args.map fun e=>(false,eval e env)) []) Q E s₂) E s₁) E s) :
    wpAny (model cx.prog cx.w) A (eval (.Call (.Attribute o name apos) args [] pos) env) Q E s:=by
  rw [arm_eval_Call,Dz hs]
  refine wpAny_bind (wpAny_mono h (fun ov s₁ h₁=>?_) fun _ _ e=>e)
  refine wpAny_bind (wpAny_standAt ?_)
  have hform:methodCallForm (args.length+([]:List Keyword).length) (backTo pos (starEach args env)) (backToKw pos (keywordEach [] env))=true:=Hk hp hz
  have hpos:methodCallPos true o env apos pos=pure pos:=by unfold methodCallPos;simp [hline]
  unfold methodCall
  rw [hform,Au pos hp]
  refine wpAny_bind (wpAny_holding (wpAny_mono (h₁ _) (fun r s₂ h₂=>?_) fun _ _ e=>e))
  exact wpAny_bind (wpAny_of_eq hpos h₂)
theorem Qz {T:Tab} {v:Val} {m k:Nat} (h:(match v with | .loc i=>(match H[i]? with | some (.inst c _)=>T.meth c m | _=>none) | _=>none)=some k):∃ i c fs,v=.loc i /\ H[i]?=some (.inst c fs) /\ T.meth c m=some k:=by
  split at h
  · split at h
    · exact ⟨_,_,_,rfl,by assumption,h⟩
    · exact Ae h
  · exact Ae h
theorem Td (CB:ClsBase cx N) (hΦ:Hm cx Φ d) (room:Room A d) (hfr:A.frames=some l) {a:ME} {m:Nat} {es:MEs} {o:Expr} {y:Str} {apos pos:Pos} {xs:List Expr} (hm:D8 N.meths y m=true) (hes:ckEs N sc ns es xs=true) (hz:xs.length <= 20) (hs:Cu o=true) (hline:(apos.endLine == pos.line)=true)
    (x:EOk cx A ((Amb.env cx env sc ns Γ).and (Amb.frames cx l)) Φ env Γ a o) (y':Sim cx A ((Amb.env cx env sc ns Γ).and (Amb.frames cx l)) (spliced (xs.map fun e=>(false,eval e env))) (evalEs cx.T Φ es Γ) (Amb.vrs cx)) :
    EOk cx A ((Amb.env cx env sc ns Γ).and (Amb.frames cx l)) Φ env Γ (.umeth a m es) (.Call (.Attribute o y apos) xs [] pos):=by
  refine EOk.of ?_ rfl
  intro H ρ s R p
  first | rw [Js] | rw [My] | rw [Hg] | rw [R6] | rw [Fw] | rw [R7]
  refine Bg.bindK (K':=fun Q E s=>wpAny (model cx.prog cx.w) A (eval (.Call (.Attribute o y apos) xs [] pos) env) Q E s) (K:=fun ov Q E s=>∀ pl,wpAny (model cx.prog cx.w) A (getMethod ov y pl) (fun r s₂=>wpAny (model cx.prog cx.w) A (callWith pos r.1 r.2 (xs.map fun e=>(false,eval e env)) []) Q E s₂) E s) (x.val H ρ s R p) ?_ ?_
    (fun Q E h=>Kv hs (B7 hes) hz hline h)
  · intro b ov H1 ρ1 s1 _ F1 R1 vr
    have vr':VR cx ρ1 s1.heap b ov:=vr
    refine Gs.lookK fun k hk=>?_
    refine Ah fun G kG=>?_
    refine ex3 (Qz hk) fun i c fs zz=>Av zz fun zr3 hi hk'=>?_;subst zr3
    refine ex1 vr'.loc_inv fun p1 zz=>Ad zz fun hp1 zr2=>?_;subst zr2
    refine ex3 (R1.instAt hi hp1) fun C ob mA zz=>Z7 zz fun k0 kc e k1 k2 k3 k4 nn f g=>?_
    refine V3 ((CB.cls c C kc k0).is) fun nm q Nn bs sn sub col dd q0 q1 q2 q3 q5 mN zz=>Mu zz fun hC hN h1 h2 h3 h4 h5=>?_
    refine ex3 (h5 y m k (Cw hm) hk') fun fa fo fd zz=>Mu zz fun hfa hmN hfo hfc hfd hna zz=>ex1 zz fun r hr=>?_
    refine kG ?_
    have hmA:mA y=none:=by
      cases w:mA y with
      | none=>rfl
      | some z=>refine ex2 (g y (by rw [w];exact fun q=>nomatch q)) fun j _ zz=>Ad zz fun hj _=>?_;exact absurd hj (hna j)
    refine Gs.mono (Fy (f:=.ref fa) (K:=fun vs Q E s=>(s.heap.get? fa=some fo /\ fo.data=.func fd) /\ wpAny (model cx.prog cx.w) A (call (.ref fa) (.ref p1.1 :: vs)) Q E s) (fun e=>Fi (e▸hes)) R1 (y' H1 ρ1 s1 R1 (((Amb.env cx env sc ns Γ).and (Amb.frames cx l)).st _ _ _ _ p F1)) ?_ ?_) ?_
    · intro ms vs H2 ρ2 s2 _ F2 R2 vrs
      exact Gs.andK ⟨R2.base _ _ hfo,hfd⟩ (hΦ k fa (.loc i :: ms) (.ref p1.1 :: vs) A l hfa room.toF hfr H2 ρ2 s2 R2 ⟨.cons (VR.step F2.step vr) vrs,(p.2.full F1).full F2⟩)
    · exact fun vs Q E Q' E' s h k1 k2=>⟨h.1,wpAny_mono h.2 k1 k2⟩
    · intro Q E h pl
      refine method_of (R1.base _ _ hC) (hN.keeps R1.base) h1 h2 hmN (R1.base _ _ hfo) hfc hr (Ol e k1 k2 k3 k4 nn) hmA ?_
      exact Calls.callWith_function (o:=fo) (fd:=fd) (wpAny_mono h (fun b s₁ h₁=>by rw [h₁.1];exact h₁.2) fun _ _ q=>q)
  · exact fun ov Q E Q' E' s h k1 k2 pl=>wpAny_mono (h pl) (fun r s₂ h₂=>wpAny_mono h₂ k1 k2) k2
theorem callWith_own {nm q:Str} {C Nn:Addr} {bs:List Value} {sn:List Str} {sub:List Value} {col:Option Bool} {dd:Option Addr} {k0 k1 k2 k3 k5:Option Value} {pos:Pos} {args:List (Bool × Sem Value)} {Q:Value -> Shared -> Prop} {E:Value -> Shared -> Prop} (hplain:args.any (·.1)=false)
    (h:wpAny (model cx.prog cx.w) A (evalArgs (.ref C) true args []) (fun as s₁=>as.kw=[] /\ s₁.heap.get? C=some (excClassObj nm q C Nn bs [.type "object"] true sn sub false col dd k0 k1 k2 k3 k5 "object.__new__") /\ wpAny (model cx.prog cx.w) A (call (.ref C) as.pos) Q E s₁) E s) :
    wpAny (model cx.prog cx.w) A (callWith pos (.ref C) [] args []) Q E s:=by
  unfold callWith
  refine wpAny_bind (wpAny_holding (wpAny_mono h (fun as s₁ h₁=>?_) fun _ _ x=>x))
  refine Av h₁ fun e hC hc=>?_
  obtain ⟨ps,kw⟩:=as
  dsimp only at e hc
  subst e
  obtain ⟨hh,g,dr,t,os⟩:=s₁
  have f1:=tc_lookup
  have hT:(⟨hh,g,dr,t,os⟩:Shared).TypeIs (.ref C) "type":=⟨_,hC,rfl⟩
  refine wpAny_bind (wpAny_standAt ?_)
  unfold keeperOf specialOf
  repeat (any_goals (first | assumption | with_reducible refine wpAny_loadPart_at hC ?_ | with_reducible refine wpAny_load' hC ?_ | wp_step))
  rw [if_pos (by rfl),hplain]
  exact wpAny_bind (wpAny_mono hc (fun r s' hr=>wpAny_bind (wpAny_holding (wpAny_point (wpAny_pure hr)))) fun _ _ x=>x)
theorem Room.made {C:Addr} {vs:List Value} (r:Room A d):RoomF (A.under (.builtin "type.__call__" ⟨.ref C :: vs,[]⟩)) d:=by
  refine ⟨r.hh,?_,?_⟩
  · show A.depth+1+5 * d+147 < recursionLimit
    have:=r.depth;exact o36 this
  · show A.units+1+20 * d+90 < cLine
    have:=r.units;exact o37 this
theorem Te {T:Tab} {c k:Nat} {ms:List Val} (h:T.meth c 0=some k):Qk T Φ c ms H=(match Φ k (.loc H.length :: ms) (H++[.inst c []]) with
    | .ok r H'=>(match r with | .none=>Res.ok (.loc H.length) H' | _=>.bad)
    | .exc e H'=>.exc e H'
    | .bad=>.bad):=by
  unfold Qk
  rw [h]
  show M.bnd _ _ _=_
  rw [D4 (show M.alloc (.inst c []) H=.ok (.loc H.length) (H++[.inst c []]) from rfl)]
  cases e:Φ k (.loc H.length :: ms) (H++[.inst c []]) with
  | bad=>rw [Df e]
  | exc x H'=>rw [Fd e]
  | ok r H'=>rw [D4 e];cases r <;> rfl
theorem W1 (CB:ClsBase cx N) (hΦ:Hm cx Φ d) (room:Room A d) (hfr:A.frames=some l) {c:Nat} {C:Addr} {ms:List Val} {vs:List Value} (hc:cx.cls[c]?=some (.ref C)) (R:Rel cx H ρ s) (vrs:VRs cx ρ s.heap ms vs) (fr:A0 cx l ρ s.heap) :
    Gs cx (Qk cx.T Φ c ms H) (fun Q E s=>wpAny (model cx.prog cx.w) A (call (.ref C) vs) Q E s) (Amb.vr cx) ρ s:=by
  cases hk:cx.T.meth c 0 with
  | none=>unfold Qk;rw [hk];trivial
  | some k =>
    have hks:(cx.T.meth c 0).isSome=true:=by rw [hk];rfl
    refine Ah fun G kG=>?_
    refine V3 ((CB.cls c C hc hks).is) fun nm q Nn bs sn sub col dd q0 q1 q2 q3 q5 mN zz=>Mu zz fun hC hN h1 h2 h3 h4 h5=>?_
    refine ex3 (h5 _ 0 k CB.init hk) fun fa fo fd zz=>Mu zz fun hfa hmN hfo hfc hfd hna _=>?_
    refine kG ?_
    rw [Te hk]
    have main:∀ (Q:Value -> Shared -> Prop) (E:Value -> Shared -> Prop),(∀ h' x dx,Heap.MadeObj s.heap h' x dx C -> wpAny (model cx.prog cx.w) (A.under (.builtin "type.__call__" ⟨.ref C :: vs,[]⟩)) (call (.ref fa) (.ref x :: vs)) (fun r s'=>r=.none /\ Q (.ref x) s') E { s with heap:=h' }) -> wpAny (model cx.prog cx.w) A (call (.ref C) vs) Q E s:=by
      intro Q E hq
      exact wpAny_call_obj_init F.objNew (R.base _ _ hC) (hN.keeps R.base) hmN (R.base _ _ hfo) hfc hq
    have Ep:∀ h' x dx,Heap.MadeObj s.heap h' x dx C -> Full ρ s.heap (ρ++[(x,dx)]) h' /\ Bg cx (A.under (.builtin "type.__call__" ⟨.ref C :: vs,[]⟩)) (Φ k (.loc H.length :: ms) (H++[.inst c []])) (call (.ref fa) (.ref x :: vs)) (Amb.vr cx) (ρ++[(x,dx)]) { s with heap:=h' }:=by
      intro h' x dx mo
      refine Ah fun G kG=>?_
      refine ex1 mo.inst fun o zz=>Cg zz fun ho oc od odd=>?_
      have hdx:=mo.dict o ho
      have nn:dx≠x /\ h'.Ns1 dx (fun _=>none):=by
        rcases odd with ⟨w,_⟩ | ⟨b,w,w1,w2⟩
        · rw [hdx] at w;cases w
        · rw [hdx] at w;cases w;exact ⟨w1,w2⟩
      obtain ⟨F,R'⟩:=R.alloc (tk:=s.toks) (o:=.inst c []) (p:=(x,dx)) mo.keeps ⟨mo.newX,mo.newD⟩ (.inst hks hc ho oc od hdx nn.1 nn.2 (fun n v hv=>by cases hv) (fun y hy=>absurd rfl hy))
      refine kG ?_
      have vx:VR cx (ρ++[(x,dx)]) h' (.loc H.length) (.ref x):=VR.loc (p:=(x,dx)) (by rw [R.len,List.getElem?_append_right (Nat.le_refl _)];simp)
      exact ⟨F,hΦ k fa (.loc H.length :: ms) (.ref x :: vs) _ l hfa room.made hfr _ _ _ R' ⟨.cons vx (vrs.step F.step),fr.full F⟩⟩
    cases hr:Φ k (.loc H.length :: ms) (H++[.inst c []]) with
    | bad=>trivial
    | exc e H' =>
      refine main _ _ fun h' x dx mo=>?_
      obtain ⟨F,sm⟩:=Ep h' x dx mo
      rw [hr] at sm
      exact wpAny_mono sm (fun _ _ q=>q.elim) fun ex s' ⟨ρ',F',R',fl⟩=>⟨ρ',F.trans F',R',fl.older F.live⟩
    | ok r H' =>
      cases r with
      | none =>
        refine main _ _ fun h' x dx mo=>?_
        obtain ⟨F,sm⟩:=Ep h' x dx mo
        rw [hr] at sm
        refine wpAny_mono sm (fun r' s' ⟨ρ',F',R',vr⟩=>⟨VR.none_inv vr,ρ',F.trans F',R',?_⟩) fun _ _ q=>q.elim
        exact VR.loc (p:=(x,dx)) (F'.grow.get (by rw [R.len,List.getElem?_append_right (Nat.le_refl _)];simp))
      | _=>trivial
theorem Aba (B:Base cx N) (hΦ:Hm cx Φ d) (room:Room A d) (hfr:A.frames=some l) {c:Nat} {es:MEs} {x:Str} {np pos:Pos} {xs:List Expr} (hg:B5 sc x=true) (hk:D8 N.clss x c=true) (hes:ckEs N sc ns es xs=true)
    (y':Sim cx A ((Amb.env cx env sc ns Γ).and (Amb.frames cx l)) (spliced (xs.map fun e=>(false,eval e env))) (evalEs cx.T Φ es Γ) (Amb.vrs cx)) :
    EOk cx A ((Amb.env cx env sc ns Γ).and (Amb.frames cx l)) Φ env Γ (.new c es) (.Call (.Name x np) xs [] pos):=by
  refine EOk.of ?_ rfl
  intro H ρ s R p
  first | rw [Js] | rw [My] | rw [Hg] | rw [R6] | rw [Fw] | rw [R7]
  cases hm:cx.T.meth c 0 with
  | none=>trivial
  | some k =>
    have hks:(cx.T.meth c 0).isSome=true:=by rw [hm];rfl
    refine Ah fun G kG=>?_
    refine ex2 B.ns fun mg mb zz=>Lp zz fun ng nb _ _ q _=>?_
    refine ex1 (q x c (Cw hk)) fun Cv zz=>Ad zz fun hC hx=>?_
    obtain ⟨C,rfl⟩:=B.cls.ref c Cv hC hks
    refine V3 ((B.cls.cls c C hC hks).is) fun nm qn Nn bs sn sub col dd q0 q1 q2 q3 q5 mN zz=>Ad zz fun hCo _=>?_
    refine kG ?_
    refine Gs.mono (Fy (f:=.ref C) (K:=fun vs Q E s=>s.heap.get? C=some (excClassObj nm qn C Nn bs [.type "object"] true sn sub false col dd q0 q1 q2 q3 q5 "object.__new__") /\ wpAny (model cx.prog cx.w) A (call (.ref C) vs) Q E s) (fun e=>Fi (e▸hes)) R (y' H ρ s R p) ?_ ?_) ?_
    · intro ms vs H1 ρ1 s1 _ F1 R1 vrs
      exact Gs.andK (R1.base _ _ hCo) (W1 B.cls hΦ room hfr hC R1 vrs (p.2.full F1))
    · exact fun vs Q E Q' E' s h k1 k2=>⟨h.1,wpAny_mono h.2 k1 k2⟩
    · intro Q E h
      refine wpAny_Call_ofName (wp_glob R p.1.st hg ng nb hx ?_)
      rw [Au pos (B7 hes)]
      exact callWith_own (Ei _) (wpAny_mono h (fun b s₁ h₁=>by refine Av h₁ fun h1 h2 h3=>?_;exact ⟨h1,h2,h3⟩) fun _ _ q=>q)
end
section
variable {cx:Cx} {N:Names} {A:Around} {P:Amb} {Φ:Funs} {l:List Env} {d:Nat} {env:Env} {sc:Scope} {ns:List (Option Str)} {Γ:Env'} {H:Hp} {ρ:Rho} {s:Shared}
theorem VRs.cut {h:Heap} {ms:List Val} {vs:List Value} (r:VRs cx ρ h ms vs) (p:Bool × Nat):VRs cx ρ h (cut p ms) (cut p vs):=by
  obtain ⟨b,k⟩:=p
  cases b with
  | true=>exact r.drop k
  | false=>exact VRs.take r k
theorem Aef {α:Type} (p:Bool × Nat) (xs:List α):(cut p xs).length <= xs.length:=by
  obtain ⟨b,k⟩:=p
  cases b with
  | true=>show (xs.drop k).length <= _;rw [List.length_drop];exact o38
  | false=>show (xs.take k).length <= _;rw [List.length_take];exact o39
set_option tactic.hygienic true in
theorem Tf {h:Heap} {lo hi:Val} {vl vu:Value} {p:Bool × Nat} {n:Nat} (e:V6 lo hi n=some p) (x:VR cx ρ h lo vl) (y:VR cx ρ h hi vu):∃ a b,IsPart vl a /\ IsPart vu b /\ ∀ vs:List Value,vs.length=n -> slicePick vs.toArray a b none=(cut p vs).toArray:=by
  cases lo with
  | int k =>
    cases hi with
    | none =>
      have e:some (true,if 0 <= k then k.toNat else n - k.natAbs)=some p:=e
      cases e
      obtain ⟨t,hr0⟩:=x.int_inv;refine Eq.symm hr0▸?_
      obtain rfl:=y.none_inv
      refine ⟨_,_,.int k t,.none,fun vs hn=>?_⟩
      by_cases h0:0 <= k
      · rw [if_pos h0]
        have:=slicePick_from' vs.toArray k.toNat
        rwa [Int.toNat_of_nonneg h0] at this
      · rw [if_neg h0,<- hn]
        have:=slicePick_last vs.toArray k.natAbs (by exact o40 h0)
        rwa [show -(k.natAbs:Int)=k by exact o41 h0] at this
    | _=>exact Ae e
  | none =>
    cases hi with
    | int k =>
      have e:(if 0 <= k then some (false,k.toNat) else none)=some p:=e
      split at e
      · rename_i h0
        cases e
        obtain ⟨t,hr2⟩:=y.int_inv;refine Eq.symm hr2▸?_
        obtain rfl:=x.none_inv
        refine ⟨_,_,.none,.int k t,fun vs _=>?_⟩
        have:=slicePick_upto' vs.toArray k.toNat
        rwa [Int.toNat_of_nonneg h0] at this
      · exact Ae e
    | _=>exact Ae e
  | _=>exact Ae e
noncomputable def C9 (o vl vu:Value) (Q:Value -> Shared -> Prop) (s₃:Shared):Prop :=
  ∃ l items lo hi,o=.ref l /\ s₃.heap.IsList l items /\ items.size <= sizeLine /\ IsPart vl lo /\ IsPart vu hi /\
    Q (.ref (s₃.heap.objs.size+1)) { s₃ with heap:=(s₃.heap.push { cls:=.type "slice",data:=.fields #[vl,vu,.none] }).push { cls:=.type "list",data:=.seq (slicePick items lo hi none) } }
theorem C9.mono {o vl vu:Value} {Q Q':Value -> Shared -> Prop} {s₃:Shared} (h:C9 o vl vu Q s₃) (k:∀ a s,Q a s -> Q' a s):C9 o vl vu Q' s₃:=by
  refine Ah fun G kG=>?_
  refine ex4 h fun l items lo hi zz=>Lp zz fun h1 h2 h3 h4 h5 h6=>?_
  refine kG ?_
  exact ⟨l,items,lo,hi,h1,h2,h3,h4,h5,k _ _ h6⟩
theorem Q0 (R:Rel cx H ρ s) {a:Val} {v:Value} {xs:List Val} (x:VR cx ρ s.heap a v) (h:Cc a H=some xs) (ht:Aaa a=false):∃ p vs n,v=.ref p /\ s.heap.get? p=some (B1 vs n) /\ VRs cx ρ s.heap xs vs /\ xs.length <= sizeLine:=by
  cases a with
  | loc i =>
    refine ex1 x.loc_inv fun p zz=>Ad zz fun hp hr0=>?_;refine Eq.symm hr0▸?_
    refine Ah fun G kG=>?_
    refine ex2 (R.listAt (Jv h) hp) fun vs n zz=>Cg zz fun _ g r z=>?_
    refine kG ?_
    exact ⟨p.1,vs,n,rfl,g,r,z⟩
  | script ms =>
    cases h
    cases x with
    | script e z r=>exact ⟨_,_,_,rfl,R.base _ _ e,r,by rw [List.length_map];exact z⟩
  | tup ms=>cases ht
  | _=>exact Ae h
theorem Om {value:Expr} {lower upper:Option Expr} {p pos:Pos} {Q E:Value -> Shared -> Prop}
    (h:wpAny (model cx.prog cx.w) A (eval value env) (fun o s₁=>wpAny (model cx.prog cx.w) A (evalPart lower env) (fun vl s₂=>wpAny (model cx.prog cx.w) A (evalPart upper env) (fun vu s₃=>C9 o vl vu Q s₃) E s₂) E s₁) E s) :
    wpAny (model cx.prog cx.w) A (eval (.Subscript value (.Slice lower upper none p) pos) env) Q E s:=by
  refine wpAny_bind (wpAny_mono h (fun o s₁ h₁=>wpAny_bind (wpAny_holding (wpAny_Slice (wpAny_mono h₁ (fun vl s₂ h₂=>wpAny_mono h₂ (fun vu s₃ h₃=>?_) fun _ _ x=>x) fun _ _ x=>x)))) fun _ _ x=>x)
  refine Ah fun G kG=>?_
  refine ex4 h₃ fun l items lo hi zz=>Lp zz fun zr4 hl hsz pl pu hQ=>?_;subst zr4
  refine kG ?_
  refine wpAny_pure (wpAny_bind (wpAny_standAt ?_))
  have ty:=(hl.push { cls:=.type "slice",data:=.fields #[vl,vu,.none] }).typeIs (s:={ s₃ with heap:=s₃.heap.push { cls:=.type "slice",data:=.fields #[vl,vu,.none] } })
  have get:wpAny (model cx.prog cx.w) A (getItem (.ref l) (.ref s₃.heap.objs.size)) Q E { s₃ with heap:=s₃.heap.push { cls:=.type "slice",data:=.fields #[vl,vu,.none] } }:=by
    refine wpAny_getItem_list_slice (hl.push _) (Heap.IsSliceOf.new ..) pl pu .none (by simp) ?_ hsz
    rw [Heap.size_push];exact hQ
  have fin:∀ i,wpAny (model cx.prog cx.w) A (getItem (.ref l) i) Q E _ -> wpAny (model cx.prog cx.w) A (operate [i,.ref l] (getItem (.ref l) i)) (fun r s₃=>wpAny (model cx.prog cx.w) A (letTemporaryGo value (.ref l) r>>=fun _=>pure r) Q E s₃) E { s₃ with heap:=s₃.heap.push { cls:=.type "slice",data:=.fields #[vl,vu,.none] } } :=
    fun i g=>wpAny_operating (wpAny_mono g (fun r s₃ h₃=>wpAny_bind (wpAny_letTemporaryGo (wpAny_pure h₃))) fun _ _ x=>x)
  refine wpAny_bind ?_
  exact wpAny_bind (wpAny_specialOf ty list_getitem_lookup (wpAny_pure (wpAny_bind (fin _ get))))
set_option tactic.hygienic true in
theorem Tg {a:ME} {lo hi:MEo} {x:Expr} {p pos:Pos} {lw up:Option Expr} (ha:EOk cx A P Φ env Γ a x) (hl:Sim cx A P (evalPart lw env) (evalO cx.T Φ lo Γ) (Amb.vr cx)) (hu:Sim cx A P (evalPart up env) (evalO cx.T Φ hi Γ) (Amb.vr cx)) :
    EOk cx A P Φ env Γ (.slice a lo hi) (.Subscript x (.Slice lw up none p) pos):=by
  refine EOk.of ?_ rfl
  intro H ρ s R p0
  refine Bg.bindK (K':=fun Q E s=>wpAny (model cx.prog cx.w) A (eval (.Subscript x (.Slice lw up none p) pos) env) Q E s)
    (K:=fun o Q E s=>wpAny (model cx.prog cx.w) A (evalPart lw env) (fun vl s₂=>wpAny (model cx.prog cx.w) A (evalPart up env) (fun vu s₃=>C9 o vl vu Q s₃) E s₂) E s) (ha.val H ρ s R p0) ?_ ?_ (fun Q E h=>Om h)
  · intro b ov H1 ρ1 s1 _ F1 R1 vr
    refine Bg.bindK (K':=fun Q E s=>wpAny (model cx.prog cx.w) A (evalPart lw env) (fun vl s₂=>wpAny (model cx.prog cx.w) A (evalPart up env) (fun vu s₃=>C9 ov vl vu Q s₃) E s₂) E s)
      (K:=fun vl Q E s=>wpAny (model cx.prog cx.w) A (evalPart up env) (fun vu s₃=>C9 ov vl vu Q s₃) E s) (hl H1 ρ1 s1 R1 (P.st _ _ _ _ p0 F1)) ?_ ?_ (fun Q E h=>h)
    · intro b2 vl H2 ρ2 s2 _ F2 R2 vr2
      refine Bg.bindK (K':=fun Q E s=>wpAny (model cx.prog cx.w) A (evalPart up env) (fun vu s₃=>C9 ov vl vu Q s₃) E s)
        (K:=fun vu Q E s₃=>C9 ov vl vu Q s₃) (hu H2 ρ2 s2 R2 (P.st _ _ _ _ (P.st _ _ _ _ p0 F1) F2)) ?_ ?_ (fun Q E h=>h)
      · intro b3 vu H3 ρ3 s3 _ F3 R3 vr3
        have v1:VR cx ρ3 s3.heap b ov:=VR.step F3.step (VR.step F2.step vr)
        have v2:VR cx ρ3 s3.heap b2 vl:=VR.step F3.step vr2
        have v3:VR cx ρ3 s3.heap b3 vu:=vr3
        show Gs cx (Gr b b2 b3 H3) _ _ ρ3 s3
        unfold Gr
        split
        · rename_i xs hx
          split
          · rename_i q hq
            by_cases ht:Aaa b=true
            · rw [if_pos ht];trivial
            · rw [if_neg ht]
              refine Ah fun G kG=>?_
              refine ex3 (Q0 R3 v1 hx (by simpa using ht)) fun a vs n zz=>Cg zz fun zr3 g r z=>?_;subst zr3
              refine ex2 (Tf hq v2 v3) fun pa pb zz=>Av zz fun q1 q2 q3=>?_
              refine kG ?_
              refine ⟨a,vs.toArray,pa,pb,rfl,⟨_,g,rfl,n,rfl⟩,by simp only [List.size_toArray];rw [<- r.length];exact z,q1,q2,?_⟩
              rw [q3 vs r.length.symm]
              have F4:Full ρ3 s3.heap ρ3 (s3.heap.push { cls:=.type "slice",data:=.fields #[vl,vu,.none] }):=Full.push _ _ _
              have R4:=R3.push { cls:=.type "slice",data:=.fields #[vl,vu,.none] } s3.toks
              have:=R4.newList (s:={ s3 with heap:=s3.heap.push { cls:=.type "slice",data:=.fields #[vl,vu,.none] } }) s3.toks ((VRs.cut r q).step F4.step) (Nat.le_trans (Aef _ _) z)
              rw [Heap.size_push] at this
              refine Ah fun G kG=>?_
              refine ex1 this fun ρ' zz=>Av zz fun F' R' vr'=>?_
              refine kG ?_
              exact ⟨ρ',F4.trans F',R',vr'⟩
          · trivial
        · trivial
      · exact fun vu Q E Q' E' s h k1 _=>h.mono k1
    · exact fun vl Q E Q' E' s h k1 k2=>wpAny_mono h (fun vu s₃ h'=>h'.mono k1) k2
  · exact fun ov Q E Q' E' s h k1 k2=>wpAny_mono h (fun vl s₂ h'=>wpAny_mono h' (fun vu s₃ h''=>h''.mono k1) k2) k2
end
section
variable {cx:Cx} {N:Names} {A:Around} {Φ:Funs} {l:List Env} {d:Nat}
structure Ground (cx:Cx) (N:Names) (A:Around) (Φ:Funs) (l:List Env) (d:Nat):Prop where
  base:Base cx N
  room:Room A d
  frames:A.frames=some l
  funs:Hm cx Φ d
  defs:∀ (f:Nat) (a:Addr),cx.fns[f]?=some a -> ∃ g,cx.T.funs[f]?=some g
theorem Ground.u (G:Ground cx N A Φ l d):A.units+100 < cLine:=by have:=G.room.units;exact o42 this
noncomputable def Da (ns:List (Option Str)):Prop:=∀ (i j:Nat) (y:Str),ns[i]?=some (some y) -> ns[j]?=some (some y) -> i=j
theorem Y6 {m:BM} {ms:List Val} {xs:List Expr} (h1:(Hi m).2=xs.length) (h2:ms.length=xs.length):ms.length=(Hi m).2:=by rw [h1,h2]
theorem Y7 (hu:A.units+100 < cLine) (m:BM) (b:Val) (v:Value) (ms:List Val) (vs:List Value) (hl:ms.length=(Hi m).2):Sim cx A ((Amb.vr cx b v).and (Amb.vrs cx ms vs)) (call (.builtin (Vx m).2) (v :: vs)) (bmV m b ms) (Amb.vr cx):=by
  cases m with
  | append=>exact Sm b v ms vs hl
  | pop=>exact Ad8 b v ms vs hl
  | clear=>exact Wn b v ms vs hl
  | rstrip=>exact Sn b v ms vs hl
  | dpop=>exact Aau hu b v ms vs hl
set_option maxHeartbeats 4000000 in
mutual
theorem eok (G:Ground cx N A Φ l d):∀ (m:ME) (e:Expr) (env:Env) (sc:Scope) (ns:List (Option Str)) (Γ:Env'),ck N sc ns m e=true -> Da ns -> Γ.length=ns.length -> EOk cx A ((Amb.env cx env sc ns Γ).and (Amb.frames cx l)) Φ env Γ m e
  | .none,e,env,sc,ns,Γ,h,_,_=>by
    refine ex2 (Pj h) fun k pos hr0=>?_;refine Eq.symm hr0▸?_
    refine EOk.of (fun H ρ s R p=>?_) rfl
    exact At R fun Q E k=>wpAny_Constant_none (k _ s.toks .none)
  | .bool b,e,env,sc,ns,Γ,h,_,_=>by
    refine ex2 (Pk h) fun k pos zr2=>?_;subst zr2
    refine EOk.of (fun H ρ s R p=>?_) rfl
    exact At R fun Q E k=>wpAny_Constant_bool (k _ s.toks (.bool b))
  | .int i,e,env,sc,ns,Γ,h,_,_=>by
    refine ex2 (So h) fun k pos zr2=>?_;subst zr2
    refine EOk.of (fun H ρ s R p=>?_) rfl
    exact At R fun Q E k=>wpAny_Constant_int (k _ _ (.int _ _))
  | .str v,e,env,sc,ns,Γ,h,_,_=>by
    refine ex2 (Sp h) fun k pos zz=>Ad zz fun hr3 z=>?_;refine Eq.symm hr3▸?_
    refine EOk.of (fun H ρ s R p=>?_) rfl
    exact At R fun Q E k=>wpAny_Constant_str (k _ _ (.str _ _ (by rw [sizeLine_eq];exact o18 z)))
  | .glob k,e,env,sc,ns,Γ,h,_,_=>by
    refine ex2 (Wq h) fun x pos zz=>Av zz fun zr2 h1 h2=>?_;subst zr2
    exact EOk.of (Wg G.base h1 h2 Φ).and1 rfl
  | .var i,e,env,sc,ns,Γ,h,_,_=>by
    refine ex2 (Sq h) fun x pos zz=>Ad zz fun zr2 h1=>?_;subst zr2
    exact EOk.of (Sj h1 Φ).and1 rfl
  | .bin op a b,e,env,sc,ns,Γ,h,ha,hΓ=>by
    refine ex4 (Sr h) fun x o y pos zz=>Cg zz fun hr6 h1 h2 h3=>?_;refine Eq.symm hr6▸?_
    exact S3 h1 (eok G a x env sc ns Γ h2 ha hΓ) (eok G b y env sc ns Γ h3 ha hΓ)
  | .neg a,e,env,sc,ns,Γ,h,ha,hΓ=>by
    refine ex2 (Aav h) fun x pos zz=>Ad zz fun zr2 h1=>?_;subst zr2
    exact Aa3 (eok G a x env sc ns Γ h1 ha hΓ)
  | .not a,e,env,sc,ns,Γ,h,ha,hΓ=>by
    refine ex2 (Aaw h) fun x pos zz=>Ad zz fun zr2 h1=>?_;subst zr2
    exact Aa4 (eok G a x env sc ns Γ h1 ha hΓ)
  | .and a b,e,env,sc,ns,Γ,h,ha,hΓ=>by
    refine ex4 (Aax h) fun x y rest pos zz=>Av zz fun zr4 h1 h2=>?_;subst zr4
    refine Aa6 (eok G a x env sc ns Γ h1 ha hΓ) ?_
    rcases h2 with ⟨rfl,h2⟩ | h2
    · exact Vy.one (eok G b y env sc ns Γ h2 ha hΓ)
    · exact Vy.more (eok G b _ env sc ns Γ h2 ha hΓ)
  | .or a b,e,env,sc,ns,Γ,h,ha,hΓ=>by
    refine ex4 (Aea h) fun x y rest pos zz=>Av zz fun zr4 h1 h2=>?_;subst zr4
    refine Aec (eok G a x env sc ns Γ h1 ha hΓ) ?_
    rcases h2 with ⟨rfl,h2⟩ | h2
    · exact Vy.one (eok G b y env sc ns Γ h2 ha hΓ)
    · exact Vy.more (eok G b _ env sc ns Γ h2 ha hΓ)
  | .cmp op a b,e,env,sc,ns,Γ,h,ha,hΓ=>by
    refine ex3 (Ss h) fun x y pos zz=>Cg zz fun hr11 h1 h2 h3=>?_;refine Eq.symm hr11▸?_
    exact S4 G.u h3 (eok G a x env sc ns Γ h1 ha hΓ) (eok G b y env sc ns Γ h2 ha hΓ)
  | .cmp2 op1 op2 a b c,e,env,sc,ns,Γ,h,ha,hΓ=>by
    refine ex4 (Wr h) fun x y z pos zz=>Fc zz fun hr12 h1 h2 h3 h4=>?_;refine Eq.symm hr12▸?_
    exact Ww G.u h4 (eok G a x env sc ns Γ h1 ha hΓ) (eok G b y env sc ns Γ h2 ha hΓ) (eok G c z env sc ns Γ h3 ha hΓ)
  | .sub a i,e,env,sc,ns,Γ,h,ha,hΓ=>by
    refine ex3 (Aay h) fun x y pos zz=>Av zz fun hr13 h1 h2=>?_;refine Eq.symm hr13▸?_
    exact Aa8 G.u (eok G a x env sc ns Γ h1 ha hΓ) (eok G i y env sc ns Γ h2 ha hΓ)
  | .slice a lo hi,e,env,sc,ns,Γ,h,ha,hΓ=>by
    refine ex5 (Su h) fun v lw up p pos zz=>Cg zz fun zr5 h1 h2 h3=>?_;subst zr5
    exact Tg (eok G a v env sc ns Γ h1 ha hΓ) (eopt G lo lw env sc ns Γ h2 ha hΓ) (eopt G hi up env sc ns Γ h3 ha hΓ)
  | .tup es,e,env,sc,ns,Γ,h,ha,hΓ=>by
    refine ex3 (Aaz h) fun xs k pos zz=>Av zz fun hr15 h1 h2=>?_;refine Eq.symm hr15▸?_
    exact EOk.of (Aa1 (B7 h1) h2 (fun _ _ _ e=>Ch h1 e) (eoks G es xs env sc ns Γ h1 ha hΓ)) rfl
  | .list es,e,env,sc,ns,Γ,h,ha,hΓ=>by
    refine ex2 (Ws h) fun xs pos zz=>Av zz fun zr2 h1 h2=>?_;subst zr2
    exact EOk.of (Wv (B7 h1) h2 (fun _ _ _ e=>Ch h1 e) (eoks G es xs env sc ns Γ h1 ha hΓ)) rfl
  | .dict,e,env,sc,ns,Γ,h,ha,hΓ=>by
    obtain ⟨pos,hr17⟩:=Wt h;refine Eq.symm hr17▸?_
    exact EOk.of Wo rfl
  | .attr a n,e,env,sc,ns,Γ,h,ha,hΓ=>by
    refine ex3 (Wu h) fun x y pos zz=>Cg zz fun zr3 h1 h2 h3=>?_;subst zr3
    exact W0 G.base.cls h2 h3 (eok G a x env sc ns Γ h1 ha hΓ)
  | .call f es,e,env,sc,ns,Γ,h,ha,hΓ=>by
    refine ex4 (Pl h) fun x np xs pos zz=>Fc zz fun zr4 h1 h2 h3 h4=>?_;subst zr4
    refine EOk.of ?_ rfl
    refine ex2 G.base.ns fun mg mb zz=>Cg zz fun ng nb q _=>?_
    refine ex1 (q x f (Cw h2)) fun a zz=>Ad zz fun ha' _=>?_
    exact M8 G.base (fun a args vals h=>G.funs f a args vals A l h G.room.toF G.frames) h1 h2 (G.defs f a ha') h3 (eoks G es xs env sc ns Γ h3 ha hΓ)
  | .new c es,e,env,sc,ns,Γ,h,ha,hΓ=>by
    refine ex4 (Aa0 h) fun x np xs pos zz=>Fc zz fun zr4 h1 h2 h3 h4=>?_;subst zr4
    exact Aba G.base G.funs G.room G.frames h1 h2 h3 (eoks G es xs env sc ns Γ h3 ha hΓ)
  | .umeth a m es,e,env,sc,ns,Γ,h,ha,hΓ=>by
    refine ex5 (Sv h) fun o y apos xs pos zz=>Mu zz fun hr21 h1 h2 h3 h4 h5 h6=>?_;refine Eq.symm hr21▸?_
    exact Td G.base.cls G.funs G.room G.frames h2 h3 h4 h5 h6 (eok G a o env sc ns Γ h1 ha hΓ) (eoks G es xs env sc ns Γ h3 ha hΓ)
  | .bf f es,e,env,sc,ns,Γ,h,ha,hΓ=>by
    refine ex4 (Aeb h) fun x np xs pos zz=>Fc zz fun zr4 h1 h2 h3 h4=>?_;subst zr4
    exact Aee G.base G.room.hh G.u h1 h2 h3 h4 (eoks G es xs env sc ns Γ h4 ha hΓ)
  | .bm a m es,e,env,sc,ns,Γ,h,ha,hΓ=>by
    refine ex5 (Y3 h) fun o y apos xs pos zz=>Mu zz fun zr5 h1 zr7 h3 h4 h5 h6=>?_;subst zr5;subst zr7
    refine EOk.of ?_ rfl
    exact Y2 h5 (B7 h4) (by rw [<- h3];cases m <;> decide) (fun e=>Fi (e▸h4)) h6 (eok G a o env sc ns Γ h1 ha hΓ).val (eoks G es xs env sc ns Γ h4 ha hΓ)
      (fun b v ms vs hl=>Y7 G.u m b v ms vs (Y6 h3 hl)) (fun _ _ _ e=>Ch h4 e)
  | .isinst a t,e,env,sc,ns,Γ,h,ha,hΓ=>by
    refine ex6 (La h) fun f np x y yp pos zz=>Lp zz fun hr23 h1 h2 h3 h4 h5=>?_;refine Eq.symm hr23▸?_
    have z:=eok G a x env sc ns Γ h4 ha hΓ
    cases t with
    | cls c=>exact Pp G.base h1 h2 h3 h5 (Bm h4) z
    | int=>exact Ey G.base (fun c=>by intro q;cases q) h1 h2 h3 (of_decide_eq_true h5) (Bm h4) z
    | bool=>exact Ey G.base (fun c=>by intro q;cases q) h1 h2 h3 (of_decide_eq_true h5) (Bm h4) z
    | str=>exact Ey G.base (fun c=>by intro q;cases q) h1 h2 h3 (of_decide_eq_true h5) (Bm h4) z
    | tuple=>exact Ey G.base (fun c=>by intro q;cases q) h1 h2 h3 (of_decide_eq_true h5) (Bm h4) z
    | list=>exact Ey G.base (fun c=>by intro q;cases q) h1 h2 h3 (of_decide_eq_true h5) (Bm h4) z
  | .comp elt it cond,e,env,sc,ns,Γ,h,ha,hΓ=>by
    refine ex7 (Pm h) fun el x px i ifs csc pos zz=>Lp zz fun hr24 h1 h2 h3 h4 h5=>?_;refine Eq.symm hr24▸?_
    exact Wz G.room.hh h2 h3 ha hΓ ⟨fun cenv Γ' hΓ'=>econd G cond ifs cenv csc _ Γ' h5 (F6 ha (B2 h3).2.1) hΓ',fun cenv Γ' hΓ'=>(eok G elt el cenv csc _ Γ' h4 (F6 ha (B2 h3).2.1) hΓ').val⟩ (eok G it i env sc ns Γ h1 ha hΓ)
theorem eopt (G:Ground cx N A Φ l d):∀ (o:MEo) (x:Option Expr) (env:Env) (sc:Scope) (ns:List (Option Str)) (Γ:Env'),ckO N sc ns o x=true -> Da ns -> Γ.length=ns.length -> Sim cx A ((Amb.env cx env sc ns Γ).and (Amb.frames cx l)) (evalPart x env) (evalO cx.T Φ o Γ) (Amb.vr cx)
  | .none,none,env,sc,ns,Γ,_,_,_=>by
    intro H ρ s R p
    exact wpAny_pure ⟨ρ,Full.refl _ _,R,.none⟩
  | .some e,some x,env,sc,ns,Γ,h,ha,hΓ=>by
    exact (eok G e x env sc ns Γ h ha hΓ).val
  | .none,some _,env,sc,ns,Γ,h,ha,hΓ=>by cases (show false=true from h)
  | .some _,none,env,sc,ns,Γ,h,ha,hΓ=>by cases (show false=true from h)
theorem econd (G:Ground cx N A Φ l d):∀ (cond:MEo) (ifs:List Expr) (cenv:Env) (csc:Scope) (ns':List (Option Str)) (Γ':Env'),ckC N csc ns' cond ifs=true -> Da ns' -> Γ'.length=ns'.length ->
    Sim cx A ((Amb.env cx cenv csc ns' Γ').and (Amb.frames cx l)) (forIn ifs true fun c r=>if r=true then do let ok <- isTrue c cenv (eval c cenv);pure (ForInStep.yield ok) else pure (ForInStep.yield r)) (evalC cx.T Φ cond Γ') BV
  | .none,[],cenv,csc,ns',Γ',h2,ha,hΓ=>by
    intro H ρ s R p
    exact wpAny_tests_nil ⟨ρ,Full.refl _ _,R,rfl⟩
  | .some c,[i],cenv,csc,ns',Γ',h2,ha,hΓ=>by
    exact (eok G c i cenv csc ns' Γ' h2 ha hΓ).tru.pre fun Q E s h=>wpAny_tests_one h
  | .none,_ :: _,cenv,csc,ns',Γ',h2,ha,hΓ=>by cases (show false=true from h2)
  | .some _,[],cenv,csc,ns',Γ',h2,ha,hΓ=>by cases (show false=true from h2)
  | .some _,_ :: _ :: _,cenv,csc,ns',Γ',h2,ha,hΓ=>by cases (show false=true from h2)
theorem eoks (G:Ground cx N A Φ l d):∀ (ms:MEs) (xs:List Expr) (env:Env) (sc:Scope) (ns:List (Option Str)) (Γ:Env'),ckEs N sc ns ms xs=true -> Da ns -> Γ.length=ns.length ->
    Sim cx A ((Amb.env cx env sc ns Γ).and (Amb.frames cx l)) (spliced (xs.map fun e=>(false,eval e env))) (evalEs cx.T Φ ms Γ) (Amb.vrs cx)
  | .nil,[],env,sc,ns,Γ,h,ha,hΓ=>Sy
  | .nil,_ :: _,env,sc,ns,Γ,h,ha,hΓ=>by cases (show false=true from h)
  | .cons _ _,[],env,sc,ns,Γ,h,ha,hΓ=>by cases (show false=true from h)
  | .cons m ms,x :: xs,env,sc,ns,Γ,h,ha,hΓ=>by
    have h:=And.intro (an1 h) (an2 h)
    exact Pn (eok G m x env sc ns Γ h.1 ha hΓ).val (eoks G ms xs env sc ns Γ h.2 ha hΓ)
end
end
section
variable {cx:Cx} {N:Names} {A:Around} {Φ:Funs} {l:List Env} {d:Nat} {env:Env} {sc:Scope} {ns:List (Option Str)} {Γ:Env'} {H:Hp} {ρ ρ':Rho} {s:Shared}
noncomputable def B3 (cx:Cx) (env:Env) (sc:Scope) (ns:List (Option Str)) (r:ResS) (T:(Flow -> Shared -> Prop) -> (Value -> Shared -> Prop) -> Shared -> Prop) (ρ:Rho) (s:Shared):Prop :=
  match r with
  | .bad=>True
  | .next Γ' H'=>T (fun f s'=>f=.next /\ ∃ ρ',FullS env ρ s.heap ρ' s'.heap /\ Rel cx H' ρ' s' /\ EnvOk cx env sc ns Γ' ρ' s'.heap) (fun _ _=>False) s
  | .ret v H'=>T (fun f s'=>∃ v' ρ',f=.ret v' /\ FullS env ρ s.heap ρ' s'.heap /\ Rel cx H' ρ' s' /\ (VR cx ρ' s'.heap v v' /\ EnvSt cx env sc ρ' s'.heap)) (fun _ _=>False) s
  | .exc c Γ' H'=>T (fun _ _=>False) (fun e s'=>∃ ρ',FullS env ρ s.heap ρ' s'.heap /\ Rel cx H' ρ' s' /\ EnvOk cx env sc ns Γ' ρ' s'.heap /\ Flying cx ρ' s.heap s'.heap c e) s
theorem B3.of {r:ResS} {t:Sem Flow} (x:Cn cx A env sc ns r t ρ s):B3 cx env sc ns r (fun Q E s=>wpAny (model cx.prog cx.w) A t Q E s) ρ s:=by cases r <;> exact x
theorem B3.to {r:ResS} {t:Sem Flow} (x:B3 cx env sc ns r (fun Q E s=>wpAny (model cx.prog cx.w) A t Q E s) ρ s):Cn cx A env sc ns r t ρ s:=by cases r <;> exact x
theorem B3.mono {r:ResS} {T T':(Flow -> Shared -> Prop) -> (Value -> Shared -> Prop) -> Shared -> Prop} (x:B3 cx env sc ns r T ρ s) (k:∀ Q E,T Q E s -> T' Q E s):B3 cx env sc ns r T' ρ s:=by cases r <;> first | trivial | exact k _ _ x
theorem Cn.bindK {α β:Type} {t:Sem α} {m:M β} {V:β -> α -> Amb} {g:β -> Hp -> ResS} {K:α -> (Flow -> Shared -> Prop) -> (Value -> Shared -> Prop) -> Shared -> Prop} {K':(Flow -> Shared -> Prop) -> (Value -> Shared -> Prop) -> Shared -> Prop} (e0:EnvOk cx env sc ns Γ ρ s.heap) (x:Bg cx A (m H) t V ρ s)
    (y:∀ b a H' ρ' s',m H=.ok b H' -> Full ρ s.heap ρ' s'.heap -> Rel cx H' ρ' s' -> EnvOk cx env sc ns Γ ρ' s'.heap -> (V b a).P ρ' s'.heap -> B3 cx env sc ns (g b H') (K a) ρ' s')
    (mk:∀ a,Qo (K a))
    (k:∀ Q E,wpAny (model cx.prog cx.w) A t (fun a s'=>K a Q E s') E s -> K' Q E s) :
    B3 cx env sc ns (Hf m Γ g H) K' ρ s:=by
  unfold Hf
  cases e:m H with
  | bad=>trivial
  | exc c H' =>
    rw [e] at x
    exact k _ _ (wpAny_mono x (fun _ _ q=>q.elim) fun ex s' ⟨ρ',F,R,fl⟩=>⟨ρ',F.toS,R,e0.full F,fl⟩)
  | ok b H' =>
    rw [e] at x
    show B3 cx env sc ns (g b H') K' ρ s
    cases e2:g b H' with
    | bad=>trivial
    | next Γ2 H2 =>
      refine k _ _ (wpAny_mono x (fun a s' ⟨ρ',F,R,v⟩=>?_) fun _ _ q=>q.elim)
      have z:=y b a H' ρ' s' e F R (e0.full F) v
      rw [e2] at z
      exact mk a _ _ _ _ _ z (fun f s'' ⟨h1,ρ'',F',R',e'⟩=>⟨h1,ρ'',F.toS.trans F',R',e'⟩) fun _ _ q=>q.elim
    | ret v2 H2 =>
      refine k _ _ (wpAny_mono x (fun a s' ⟨ρ',F,R,v⟩=>?_) fun _ _ q=>q.elim)
      have z:=y b a H' ρ' s' e F R (e0.full F) v
      rw [e2] at z
      exact mk a _ _ _ _ _ z (fun f s'' ⟨v',ρ'',h1,F',R',e'⟩=>⟨v',ρ'',h1,F.toS.trans F',R',e'⟩) fun _ _ q=>q.elim
    | exc c2 Γ2 H2 =>
      refine k _ _ (wpAny_mono x (fun a s' ⟨ρ',F,R,v⟩=>?_) fun _ _ q=>q.elim)
      have z:=y b a H' ρ' s' e F R (e0.full F) v
      rw [e2] at z
      exact mk a _ _ _ _ _ z (fun _ _ q=>q) fun ex s'' ⟨ρ'',F',R',e',fl⟩=>⟨ρ'',F.toS.trans F',R',e',fl.older F.live⟩
theorem B3.look {β:Type} {f:Hp -> Option β} {g:β -> Hp -> ResS} {K:(Flow -> Shared -> Prop) -> (Value -> Shared -> Prop) -> Shared -> Prop} (y:∀ b,f H=some b -> B3 cx env sc ns (g b H) K ρ s):B3 cx env sc ns (Hf (M.look f) Γ g H) K ρ s:=by
  unfold Hf
  cases e:f H with
  | none=>rw [F5 e];trivial
  | some b=>rw [Fz e];exact y b e
theorem A0.stmt {h h':Heap} (fr:A0 cx l ρ h) (F:FullS env ρ h ρ' h') (e0:EnvSt cx env sc ρ h) (e1:EnvSt cx env sc ρ' h'):A0 cx l ρ' h':=fun en he=>by
  refine Ah fun G kG=>?_
  refine Ad (fr en he) fun k zz=>ex2 zz fun L o zz=>Fc zz fun h1 h2 h3 h5 h6=>?_
  refine kG ?_
  by_cases q:L=env.locals
  · refine Ah fun G kG=>?_
    refine ex1 e1.loc fun m zz=>ex3 zz fun o' es ep zz=>Av zz fun e' d _=>?_
    refine kG ?_
    rw [<- q] at e'
    exact ⟨k,L,o',h1,h2,e',⟨_,_,d⟩,by rw [q];exact e1.locN⟩
  · refine ex2 h5 fun es n hd=>?_
    refine ex1 (F.keep L o h3 h6 q (e0.notCell h3 fun v w=>by rw [hd] at w;cases w)) fun o' zz=>Ad zz fun e' u=>?_
    exact ⟨k,L,o',h1,h2,e',⟨es,n,by rw [u.data];exact hd⟩,F.grow.not h6 h3⟩
theorem Pr {st:Stmt} {rest:List Stmt} {m:Env' -> Hp -> ResS} {g:Env' -> Hp -> ResS} (e0:EnvOk cx env sc ns Γ ρ s.heap) (fr:A0 cx l ρ s.heap) (x:Cn cx A env sc ns (m Γ H) (exec st env) ρ s) (y:Gz cx A l env sc ns (execs rest env) g) :
    Cn cx A env sc ns (Mw (m Γ H) g) (execs (st :: rest) env) ρ s:=by
  cases e:m Γ H with
  | bad=>trivial
  | ret v H' =>
    rw [e] at x
    exact wpAny_execs_cons (wpAny_mono x (fun f s' q=>by obtain ⟨v',ρ',rfl,q⟩:=q;exact ⟨v',ρ',rfl,q⟩) fun _ _ q=>q)
  | exc c Γ' H' =>
    rw [e] at x
    exact wpAny_execs_cons (wpAny_mono x (fun f s' q=>q.elim) fun _ _ q=>q)
  | next Γ' H' =>
    rw [e] at x
    show Cn cx A env sc ns (g Γ' H') _ ρ s
    cases e2:g Γ' H' with
    | bad=>trivial
    | next Γ2 H2 =>
      refine wpAny_execs_cons (wpAny_mono x (fun f s' q=>?_) fun _ _ q=>q.elim)
      obtain ⟨rfl,ρ',F,R,e'⟩:=q
      have z:=y Γ' H' ρ' s' R e' (fr.stmt F e0.st e'.st)
      rw [e2] at z
      exact wpAny_mono z (fun f s'' ⟨h1,ρ'',F',R',e'⟩=>⟨h1,ρ'',F.trans F',R',e'⟩) fun _ _ q=>q.elim
    | ret v2 H2 =>
      refine wpAny_execs_cons (wpAny_mono x (fun f s' q=>?_) fun _ _ q=>q.elim)
      obtain ⟨rfl,ρ',F,R,e'⟩:=q
      have z:=y Γ' H' ρ' s' R e' (fr.stmt F e0.st e'.st)
      rw [e2] at z
      exact wpAny_mono z (fun f s'' ⟨v',ρ'',h1,F',R',e'⟩=>⟨v',ρ'',h1,F.trans F',R',e'⟩) fun _ _ q=>q.elim
    | exc c2 Γ2 H2 =>
      refine wpAny_execs_cons (wpAny_mono x (fun f s' q=>?_) fun _ _ q=>q.elim)
      obtain ⟨rfl,ρ',F,R,e'⟩:=q
      have z:=y Γ' H' ρ' s' R e' (fr.stmt F e0.st e'.st)
      rw [e2] at z
      exact wpAny_mono z (fun _ _ q=>q.elim) fun ex s'' ⟨ρ'',F',R',e',fl⟩=>⟨ρ'',F.trans F',R',e',fl.older F.live⟩
theorem Th {i:Nat} {y:Str} {mv:Val} {v:Value} (ha:Da ns) (R:Rel cx H ρ s) (e0:EnvOk cx env sc ns Γ ρ s.heap) (ho:Ft sc ns i y=true) (hv:VR cx ρ s.heap mv v) :
    B3 cx env sc ns (.next (Γ.set i (some mv)) H) (fun Q E s=>wpAny (model cx.prog cx.w) A (storeName env y v) (fun _=>Q .next) E s) ρ s :=
  Ej e0.len ha R e0 ho hv fun h' tk F' R' e' _=>⟨rfl,ρ,F',R',e'⟩
theorem On {y:Str} {v:Value}:Qo (α:=Flow) fun Q E s=>wpAny (model cx.prog cx.w) A (storeName env y v) (fun _=>Q .next) E s:=fun _ _ _ _ _ h k1 k2=>wpAny_mono h (fun _ _=>k1 _ _) k2
end
section
variable {cx:Cx} {N:Names} {A:Around} {Φ:Funs} {l:List Env} {d:Nat} {env:Env} {sc:Scope} {ns:List (Option Str)} {Γ:Env'} {H:Hp} {ρ ρ':Rho} {s:Shared}
noncomputable def W2 (cx:Cx) (env:Env) (sc:Scope) (ns:List (Option Str)) (ρ:Rho) (h:Heap) (r:ResS) (Q:Flow -> Shared -> Prop) (E:Value -> Shared -> Prop):Prop :=
  match r with
  | .bad=>True
  | .next Γ' H'=>∀ s' ρ',FullS env ρ h ρ' s'.heap -> Rel cx H' ρ' s' -> EnvOk cx env sc ns Γ' ρ' s'.heap -> Q .next s'
  | .ret v H'=>∀ s' ρ' v',FullS env ρ h ρ' s'.heap -> Rel cx H' ρ' s' -> (VR cx ρ' s'.heap v v' /\ EnvSt cx env sc ρ' s'.heap) -> Q (.ret v') s'
  | .exc c Γ' H'=>∀ e s' ρ',FullS env ρ h ρ' s'.heap -> Rel cx H' ρ' s' -> EnvOk cx env sc ns Γ' ρ' s'.heap -> Flying cx ρ' h s'.heap c e -> E e s'
theorem B3.ofPost {r:ResS} {T:(Flow -> Shared -> Prop) -> (Value -> Shared -> Prop) -> Shared -> Prop} (k:∀ Q E,r≠.bad -> W2 cx env sc ns ρ s.heap r Q E -> T Q E s):B3 cx env sc ns r T ρ s:=by
  cases r with
  | bad=>trivial
  | next Γ' H'=>exact k _ _ (fun q=>by cases q) fun s' ρ' F R e=>⟨rfl,ρ',F,R,e⟩
  | ret v H'=>exact k _ _ (fun q=>by cases q) fun s' ρ' v' F R e=>⟨v',ρ',rfl,F,R,e⟩
  | exc c Γ' H'=>exact k _ _ (fun q=>by cases q) fun e s' ρ' F R e' fl=>⟨ρ',F,R,e',fl⟩
theorem FullS.fresh {h h1 h2:Heap} {qs:List Addr} (F:FullS env ρ h ρ' h1) (hq:∀ q∈qs,h.get? q=none) (hs:∀ b o,b ∉ qs -> ¬ A1 ρ' b -> h1.get? b=some o -> h2.get? b=some o) (lv:Fh h1 h2):FullS env ρ h ρ' h2:=by
  refine ⟨F.grow,fun b o e n n1 n2=>?_,F.live.trans lv⟩
  refine ex1 (F.keep b o e n n1 n2) fun o' zz=>Ad zz fun e' u=>?_
  refine ⟨o',hs b o' (fun w=>?_) (F.grow.not n e) e',u⟩
  rw [hq b w] at e;exact Ae e
theorem EnvOk.priv {h h':Heap} {qs:List Addr} (x:EnvOk cx env sc ns Γ ρ h) (hs:∀ b o,b ∉ qs -> ¬ A1 ρ b -> h.get? b=some o -> h'.get? b=some o) (hq:∀ q∈qs,∃ o,h.get? q=some o /\ L9 o) (st:Step ρ h ρ h'):EnvOk cx env sc ns Γ ρ h':=by
  have nl:env.locals ∉ qs:=fun w=>by refine ex1 (hq _ w) fun o zz=>Ad zz fun e i=>?_;exact x.st.notLoc e i.notDict rfl
  have nc:∀ y c,env.cells.lookup y=some c -> c ∉ qs:=fun y c hc w=>by refine ex1 (hq _ w) fun o zz=>Ad zz fun e i=>?_;exact x.st.notCell e i.notCell y hc
  have kl:∀ o,h.get? env.locals=some o -> ∃ o',h'.get? env.locals=some o' /\ o'.data=o.data:=fun o e=>⟨o,hs _ o nl x.st.locN e,rfl⟩
  have kc:∀ y c,env.cells.lookup y=some c -> ∀ o,h.get? c=some o -> ∃ o',h'.get? c=some o' /\ o'.data=o.data:=fun y c hc o e=>⟨o,hs _ o (nc y c hc) (x.st.cells y c hc).2.1 e,rfl⟩
  obtain ⟨m,hm⟩:=x.st.loc
  refine ⟨⟨x.st.fn,x.st.glob,x.st.blt,x.st.kinds,⟨m,Bl hm kl⟩,x.st.locN,x.st.locB,fun y c hc=>?_,x.st.hasCell,x.st.apart⟩,x.len,fun i y mv hi hm=>?_⟩
  · refine Av (x.st.cells y c hc) fun zn0 a b=>?_;obtain ⟨v,hv⟩:=zn0
    exact ⟨⟨v,Bn hv (kc y c hc)⟩,a,b⟩
  · refine ex1 (x.vals i y mv hi hm) fun v zz=>Ad zz fun hv r=>?_
    refine ⟨v,?_,r.step st⟩
    rcases hv with ⟨k,m,hm,e⟩ | ⟨k,c,hc,e⟩
    · exact .inl ⟨k,m,Bl hm kl,e⟩
    · exact .inr ⟨k,c,hc,Bn e (kc y c hc)⟩
structure Walk (cx:Cx) (A:Around) (it:Value) (target:Expr) (xs:List Val) (ck:Hp -> Bool) where
  Ok:Nat -> Rho -> Heap -> Prop
  priv:List Addr
  obj:∀ {i ρ h},Ok i ρ h -> ∀ q∈priv,(∃ o,h.get? q=some o /\ L9 o) /\ ¬ A1 ρ q
  step:∀ {i ρ h ρ' h'},Ok i ρ h -> Step ρ h ρ' h' -> (∀ q∈priv,(∀ o,h.get? q=some o -> h'.get? q=some o) /\ ¬ A1 ρ' q) -> Ok i ρ' h'
  item:∀ {i:Nat} {ρ:Rho} {H:Hp} {s:Shared} {m:Val} {Q:Value -> Shared -> Prop} {E E':Value -> Shared -> Prop} {QQ:Option Value -> Shared -> Prop},Rel cx H ρ s -> Ok i ρ s.heap -> ck H=true -> xs[i]?=some m -> (∀ q∈priv,cx.h₀.get? q=none) ->
    (∀ v s₁,wpAny (model cx.prog cx.w) A (letOwnedTupleGo target it v) (fun _ s₂=>Q v s₂) E' s₁ -> QQ (some v) s₁) ->
    (∀ v h' tk,Rel cx H ρ { s with heap:=h',toks:=tk } -> Step ρ s.heap ρ h' -> (∀ b o,b ∉ priv -> ¬ A1 ρ b -> s.heap.get? b=some o -> h'.get? b=some o) -> Fh s.heap h' -> VR cx ρ h' m v -> Ok (i+1) ρ h' -> Q v { s with heap:=h',toks:=tk }) ->
    wpAny (model cx.prog cx.w) A (pyNext it) QQ E s
  fin:∀ {i:Nat} {ρ:Rho} {H:Hp} {s:Shared} {Q:Option Value -> Shared -> Prop} {E:Value -> Shared -> Prop},Rel cx H ρ s -> Ok i ρ s.heap -> ck H=true -> xs[i]?=none -> (∀ q∈priv,cx.h₀.get? q=none) ->
    (∀ h' tk,Rel cx H ρ { s with heap:=h',toks:=tk } -> Step ρ s.heap ρ h' -> (∀ b o,b ∉ priv -> ¬ A1 ρ b -> s.heap.get? b=some o -> h'.get? b=some o) -> Q none { s with heap:=h',toks:=tk }) ->
    wpAny (model cx.prog cx.w) A (pyNext it) Q E s
noncomputable def Ti (cx:Cx) (A:Around) (env:Env) (sc:Scope) (ns:List (Option Str)) (target:Expr) (bind:Val -> Env' -> Option Env'):Prop :=
  ∀ (Γ Γ':Env') (H:Hp) (ρ:Rho) (s:Shared) (m:Val) (v:Value) (Q:Unit -> Shared -> Prop) (E:Value -> Shared -> Prop),bind m Γ=some Γ' -> Rel cx H ρ s -> EnvOk cx env sc ns Γ ρ s.heap -> VR cx ρ s.heap m v ->
    (∀ h' tk,FullS env ρ s.heap ρ h' -> Rel cx H ρ { s with heap:=h',toks:=tk } -> EnvOk cx env sc ns Γ' ρ h' -> Q () { s with heap:=h',toks:=tk }) -> wpAny (model cx.prog cx.w) A (assign target env v) Q E s
theorem Tj {i:Nat} {y:Str} {py:Pos} (ha:Da ns) (ho:Ft sc ns i y=true):Ti cx A env sc ns (.Name y py) (N5 i):=by
  intro Γ Γ' H ρ s m v Q E hb R e0 vr k
  cases hb
  exact wpAny_assign_Name (Ej e0.len ha R e0 ho vr fun h' tk F R' e' _=>k h' tk F R' e')
theorem Q1 {H:Hp} {c:Nat} {e:Value} {h:Heap} {ρ₀:Rho} {E:Value -> Shared -> Prop} (hfr:A.frames=some (env :: l)) (R:Rel cx H ρ s) (fr:A0 cx (env :: l) ρ s.heap) (e0:EnvOk cx env sc ns Γ ρ s.heap) (lb:Fh cx.h₀ h) (F:FullS env ρ₀ h ρ s.heap) (fl:Flying cx ρ h s.heap c e)
    (k:∀ s',FullS env ρ₀ h ρ s'.heap -> Rel cx H ρ s' -> EnvOk cx env sc ns Γ ρ s'.heap -> Flying cx ρ h s'.heap c e -> E e s') :
    notedBy (model cx.prog cx.w) A env (fun e s'=>cameBackBy (model cx.prog cx.w) A env E e s') e s:=by
  refine Ah fun G kG=>?_
  refine Ad (fr env (.head _)) fun _ zz=>ex2 zz fun L _ zz=>Ad zz fun hf _=>?_
  refine kG ?_
  refine Og hfr hf fr R lb F.live fl fun h1 o1 fl1=>Aa2 (s:={ s with heap:=h1 }) lb fl1 fun h2 o2 fl2=>?_
  have o:=o1.trans o2
  exact k { s with heap:=h2 } (o.fullS F) (o.rel R) (o.envK e0) fl2.to
theorem Ps {it:Value} {target:Expr} {xs:List Val} {ck:Hp -> Bool} {bind:Val -> Env' -> Option Env'} {body:MSs} {stmts:List Stmt} {ρ₁:Rho} {s₁:Shared} (W:Walk cx A it target xs ck) (hfr:A.frames=some (env :: l)) (hB:Ti cx A env sc ns target bind)
    (hb:Gz cx A (env :: l) env sc ns (execs stmts env) (execSs cx.T Φ body))
    (e1:EnvOk cx env sc ns Γ ρ₁ s₁.heap) (fr:A0 cx (env :: l) ρ₁ s₁.heap) (lvB:Fh cx.h₀ s₁.heap) (hpriv:∀ q∈W.priv,s₁.heap.get? q=none)
    {s:Shared} {H:Hp} {ρ:Rho} (F0:FullS env ρ₁ s₁.heap ρ s.heap) (R0:Rel cx H ρ s) (e0:EnvOk cx env sc ns Γ ρ s.heap) (ok:W.Ok 0 ρ s.heap) {Q:Flow -> Shared -> Prop} {E:Value -> Shared -> Prop}
    (nb:Ff ck bind (execSs cx.T Φ body) xs Γ H≠.bad) (p:W2 cx env sc ns ρ₁ s₁.heap (Ff ck bind (execSs cx.T Φ body) xs Γ H) Q E) :
    codeAny (model cx.prog cx.w) A (.forLoop target it stmts [] env) (fun r s'=>match r with | .ok f=>Q f s' | .error e=>cameBackBy (model cx.prog cx.w) A env E e s') s:=by
  generalize hres:Ff ck bind (execSs cx.T Φ body) xs Γ H=res at nb p
  refine codeAny_forLoop_any (fun n s=>∃ i Γ H ρ,FullS env ρ₁ s₁.heap ρ s.heap /\ Rel cx H ρ s /\ EnvOk cx env sc ns Γ ρ s.heap /\ W.Ok i ρ s.heap /\ i <= xs.length /\ n=xs.length+1 - i /\ Ff ck bind (execSs cx.T Φ body) (xs.drop i) Γ H=res) ?_ (xs.length+1)
    ⟨0,Γ,H,ρ,F0,R0,e0,ok,Nat.zero_le _,rfl,hres⟩
  have privB:∀ q∈W.priv,cx.h₀.get? q=none:=fun q hq=>lvB.none (hpriv q hq)
  clear F0 R0 e0 ok hres
  intro n s zz
  refine ex4 zz fun i Γ H ρ zz=>Mu zz fun F R e0 ok hi hr0 hr=>?_
  cases hx:xs[i]? with
  | none =>
    rw [List.drop_eq_nil_of_le (List.getElem?_eq_none_iff.mp hx)] at hr
    rw [Mx] at hr
    by_cases ckh:ck H=true
    · rw [if_pos ckh] at hr
      subst hr
      refine W.fin R ok ckh hx privB fun h' tk R' st ex=>?_
      refine wpAny_execs_nil ?_
      have e':EnvOk cx env sc ns Γ ρ h':=e0.priv ex (fun q hq=>(W.obj ok q hq).1) st
      have F':FullS env ρ₁ s₁.heap ρ h':=by
        refine ⟨F.grow,fun b o e n n1 n2=>?_,fun b o e=>?_⟩
        · refine ex1 (F.keep b o e n n1 n2) fun o' zz=>Ad zz fun eo' u=>?_
          exact ⟨o',ex b o' (fun w=>by rw [hpriv b w] at e;cases e) (F.grow.not n e) eo',u⟩
        · by_cases ow:A1 ρ b
          · exact R'.owned_lt ow
          · obtain ⟨o',eo'⟩:=F.live b o e
            exact ⟨o',ex b o' (fun w=>by rw [hpriv b w] at e;cases e) ow eo'⟩
      exact p _ ρ F' R' e'
    · rw [if_neg ckh] at hr;exact absurd hr.symm nb
  | some m =>
    have lt:i < xs.length:=(List.getElem?_eq_some_iff.mp hx).1
    have hdrop:xs.drop i=m :: xs.drop (i+1):=by
      rw [List.drop_eq_getElem_cons lt]
      rw [List.getElem?_eq_getElem lt] at hx
      cases hx;rfl
    rw [hdrop] at hr
    rw [Ky] at hr
    by_cases ckh:ck H=true
    · rw [if_pos ckh] at hr
      cases hbd:bind m Γ with
      | none=>rw [hbd] at hr;exact absurd hr.symm nb
      | some Γ1 =>
        rw [hbd] at hr
        dsimp only at hr
        refine W.item R ok ckh hx privB (fun v s₁ h=>h) fun v h' tk R' st ex lv vr ok'=>?_
        · -- what comes behind the item
          have e':EnvOk cx env sc ns Γ ρ h':=e0.priv ex (fun q hq=>(W.obj ok q hq).1) st
          have F':FullS env ρ₁ s₁.heap ρ h':=F.fresh hpriv ex lv
          refine hB Γ Γ1 H ρ { s with heap:=h',toks:=tk } m v _ _ hbd R' e' vr fun h2 tk2 F2 R2 e2=>?_
          have F12:FullS env ρ₁ s₁.heap ρ h2:=F'.trans F2
          have priv2:∀ q∈W.priv,(∀ o,h'.get? q=some o -> h2.get? q=some o) /\ ¬ A1 ρ q:=fun q hq=>by
            obtain ⟨⟨o,eo,io⟩,no⟩:=W.obj ok' q hq
            refine ⟨fun o2 eo2=>?_,no⟩
            rw [eo] at eo2;cases eo2
            refine ex1 (F2.keep q o eo no (e'.st.notLoc eo io.notDict) (e'.st.notCell eo io.notCell)) fun o3 zz=>Ad zz fun eo3 u=>?_
            rw [eo3,u.exact io.notDict]
          have ok2:W.Ok (i+1) ρ h2:=W.step ok' (FullS.step e'.st F2) priv2
          have fr2:A0 cx (env :: l) ρ h2:=fr.stmt F12 e1.st e2.st
          have B:=hb Γ1 H ρ { s with heap:=h2,toks:=tk2 } R2 e2 fr2
          cases hbody:execSs cx.T Φ body Γ1 H with
          | bad=>rw [hbody] at hr;exact absurd hr.symm nb
          | next Γ3 H3 =>
            rw [hbody] at hr B
            dsimp only [Mw] at hr
            refine wpAny_mono B (fun f s3 q=>?_) fun _ _ q=>q.elim
            refine Ad q fun zr0 zz=>ex1 zz fun ρ3 zz=>Av zz fun F3 R3 e3=>?_;subst zr0
            refine ⟨xs.length+1 - (i+1),by exact o33 lt hr0,i+1,Γ3,H3,ρ3,F12.trans F3,R3,e3,?_,lt,rfl,hr⟩
            refine W.step ok2 (FullS.step e2.st F3) fun q hq=>?_
            refine Ah fun G kG=>?_
            obtain ⟨⟨o,eo,io⟩,no⟩:=W.obj ok2 q hq
            refine kG ?_
            refine ⟨fun o2 eo2=>?_,F3.grow.not no eo⟩
            rw [eo] at eo2;cases eo2
            refine ex1 (F3.keep q o eo no (e2.st.notLoc eo io.notDict) (e2.st.notCell eo io.notCell)) fun o3 zz=>Ad zz fun eo3 u=>?_
            rw [eo3,u.exact io.notDict]
          | ret v3 H3 =>
            rw [hbody] at hr B
            dsimp only [Mw] at hr
            subst hr
            refine wpAny_mono B (fun f s3 q=>?_) fun _ _ q=>q.elim
            refine Ah fun G kG=>?_
            refine ex2 q fun v' ρ3 zz=>Cg zz fun zr2 F3 R3 vr3=>?_;subst zr2
            refine kG ?_
            exact p s3 ρ3 v' (F12.trans F3) R3 vr3
          | exc c3 Γ3 H3 =>
            rw [hbody] at hr B
            dsimp only [Mw] at hr
            subst hr
            refine wpAny_mono B (fun _ _ q=>q.elim) fun e s3 ⟨ρ3,F3,R3,e3,fl⟩=>?_
            exact Q1 hfr R3 (fr.stmt (F12.trans F3) e1.st e3.st) e3 lvB (F12.trans F3) (fl.older F12.live) fun s4 F4 R4 e4 fl4=>p e s4 ρ3 F4 R4 e4 fl4
    · rw [if_neg ckh] at hr;exact absurd hr.symm nb
noncomputable def Tk (hh:A.handled=none) (xs:List Val) (I:Addr) (src:Option Nat) (y:Str) (py:Pos):Walk cx A (.ref I) (.Name y py) xs (chk src xs) where
  Ok i ρ h:=ItOk cx xs I i ρ h src /\ ¬ A1 ρ I
  priv:=[I]
  obj:=fun ⟨h1,h2⟩ q hq=>by rw [List.mem_singleton.mp hq];exact ⟨h1.obj,h2⟩
  step:=fun ⟨h1,h2⟩ st k=>⟨h1.step st (k I (.head _)).1,(k I (.head _)).2⟩
  item:=by
    intro i ρ H s m Q E E' QQ R ⟨ok,no⟩ ck hx hb qq k
    refine ex1 ok.obj fun o zz=>Ad zz fun e io=>?_
    refine Jz R ok ck hx fun v h' tk hs hl kk=>qq v _ ?_
    obtain ⟨o',e'⟩:=hl
    have st:Step ρ s.heap ρ h':=Step.but e' e hs io.not.1 io.not.2
    obtain ⟨vr,ok'⟩:=kk st
    refine wpAny_pure (k v h' tk (R.but e' e hs io.not.1 io.not.2 no (hb I (.head _))) st (fun b o nb _ eb=>by rw [hs.2 b (fun w=>nb (w▸.head _))];exact eb) (SameBut.live hs e') vr ⟨ok',no⟩)
  fin:=by
    intro i ρ H s Q E R ⟨ok,no⟩ ck hx hb k
    refine ex1 ok.obj fun o zz=>Ad zz fun e io=>?_
    refine iter_end hh R ok ck hx fun h' tk he=>?_
    exact k h' tk (R.ext e he io.not.1 io.not.2 no (hb I (.head _))) (Step.ext e he io.not.1 io.not.2) fun b o nb _ eb=>he b o (fun w=>nb (w▸.head _)) eb
theorem Hq {E E':Value -> Shared -> Prop} {e:Value} {M:Model} (h:cameBackBy M A env E e s) (k:∀ e s,E e s -> E' e s):cameBackBy M A env E' e s:=wpAny_mono h (fun _ _=>k _ _) k
theorem W3 {i:Nat} {it:ME} {body:MSs} {y:Str} {x:Expr} {stmts:List Stmt} {py pos:Pos} (hh:A.handled=none) (hfr:A.frames=some (env :: l)) (ha:Da ns) (ho:Ft sc ns i y=true) (hn:D6 x=true)
    (hx:∀ Γ:Env',Γ.length=ns.length -> EOk cx A ((Amb.env cx env sc ns Γ).and (Amb.frames cx (env :: l))) Φ env Γ it x) (hb:Gz cx A (env :: l) env sc ns (execs stmts env) (execSs cx.T Φ body)) :
    Gz cx A (env :: l) env sc ns (exec (.For (.Name y py) x stmts [] pos) env) (Dg cx.T Φ (.each i it body)):=by
  intro Γ H ρ s R e0 fr
  refine B3.to ?_
  refine Cn.bindK (K:=fun xv Q E s=>wpAny (model cx.prog cx.w) A (pyIter xv) (fun it s₂=>codeAny (model cx.prog cx.w) A (.forLoop (.Name y py) it stmts [] env) (fun r s'=>match r with | .ok f=>Q f s' | .error e=>cameBackBy (model cx.prog cx.w) A env E e s') s₂) E s) e0 ((hx Γ e0.len).val H ρ s R ⟨e0,fr⟩) ?_ ?_ ?_
  · intro v xv H1 ρ1 s1 _ F1 R1 e1 vr
    refine B3.look fun pr hp=>?_
    obtain ⟨xs,src⟩:=pr
    refine B3.ofPost fun Q E nb p=>?_
    refine Ig R1 vr hp fun o go it0=>?_
    have F2:Full ρ1 s1.heap ρ1 (s1.heap.push o):=Full.push _ _ _
    exact Ps (Tk hh xs s1.heap.objs.size src y py) hfr (Tj ha ho) hb e1 ((Amb.frames cx (env :: l)).st _ _ _ _ fr F1) (fun b o e=>⟨o,R1.base b o e⟩) (fun q hq=>by rw [List.mem_singleton.mp hq];exact Ar _) F2.toS (R1.push o s1.toks) (e1.full F2) ⟨it0,R1.fresh_not (Ar _)⟩ nb p
  · intro xv Q E Q' E' s h k1 k2
    exact wpAny_mono h (fun it s₂ h2=>codeAny_mono h2 fun r s' hr=>by
      cases r with
      | ok f=>exact k1 _ _ hr
      | error e=>exact Hq hr k2) k2
  · intro Q E h
    exact wpAny_For h (fun xv=>Es hn env xv)
end
section
variable {cx:Cx} {N:Names} {A:Around} {Φ:Funs} {l:List Env} {d:Nat} {env:Env} {sc:Scope} {ns:List (Option Str)} {Γ:Env'} {H:Hp} {ρ ρ':Rho} {s:Shared}
theorem Tl (hh:A.handled=none) {i j:Nat} {y z:Str} {py pz pt:Pos} {k:Nat} (ha:Da ns) (hy:Ft sc ns i y=true) (hz:Ft sc ns j z=true):Ti cx A env sc ns (.Tuple [.Name y py,.Name z pz] k pt) (Aab i j):=by
  intro Γ Γ' H ρ s m v Q E hb R e0 vr kk
  refine ex1 (Option.map_eq_some_iff.mp hb) fun zn0 zz=>Ad zz fun e1 hb=>?_;obtain ⟨a,b⟩:=zn0
  cases N6 e1
  cases hb
  · cases vr with
    | @tup t vs n ms g no zz r =>
      cases r with
      | @cons _ va _ _ ra r =>
        cases r with
        | @cons _ vb _ _ rb r =>
          cases r
          refine wpAny_assign_Tuple (items:=[va,vb].toArray) hh ⟨_,g,rfl,n,rfl⟩ rfl rfl fun h1 ex=>?_
          have kp:∀ b o,s.heap.get? b=some o -> h1.get? b=some o:=fun b o e=>ex b o (Nat.ne_of_lt (Heap.lt_size e)) e
          have F1:Full ρ s.heap ρ h1:=Full.more kp
          have R1:Rel cx H ρ { s with heap:=h1 }:=R.more (tk:=s.toks) kp
          refine wpAny_assignInOrder_more (wpAny_assign_Name (Ej (s:={ s with heap:=h1 }) (e0.full F1).len ha R1 (e0.full F1) hy (ra.step F1.step) fun h2 tk2 F2 R2 e2 _=>?_))
          have St2:=FullS.step (e0.full F1).st F2
          refine wpAny_assignInOrder_more (wpAny_assign_Name (Ej (s:={ s with heap:=h2,toks:=tk2 }) e2.len ha R2 e2 hz ((rb.step F1.step).step St2) fun h3 tk3 F3 R3 e3 _=>?_))
          exact wpAny_assignInOrder_none (kk h3 tk3 ((F1.toS.trans F2).trans F3) R3 e3)
section
variable {b:Bool} {h h':Heap} {I a c:Addr} {k:Nat} {items:Array Value}
end
inductive ZIt (cx:Cx) (xs:List Val) (I:Addr) (i:Nat) (ρ:Rho) (h:Heap):Option Nat -> Prop
  | list {l:Nat} {p:Addr × Addr}:ρ[l]?=some p -> h.IsListIter I p.1 i -> ZIt cx xs I i ρ h (some l)
section
variable {xs:List Val} {I:Addr} {i:Nat} {src:Option Nat}
end
structure ZOk (cx:Cx) (xs ys:List Val) (l1 l2:Option Nat) (hl:Nat) (z TI i1 i2:Addr) (i:Nat) (ρ:Rho) (h:Heap):Prop where
  zip:∃ TO,ρ[hl]?=some (TO,TO) /\ IsZip h z TI TO .none
  ti:h.get? TI=some (Wc [.ref i1,.ref i2] 0) /\ ¬ A1 ρ TI
  it1:ZIt cx xs i1 i ρ h l1
  it2:ZIt cx ys i2 i ρ h l2
  no:¬ A1 ρ z /\ ¬ A1 ρ i1 /\ ¬ A1 ρ i2
end
section
variable {cx:Cx} {N:Names} {A:Around} {Φ:Funs} {l:List Env} {d:Nat} {env:Env} {sc:Scope} {ns:List (Option Str)} {Γ:Env'} {H:Hp} {ρ ρ':Rho} {s:Shared}
set_option tactic.hygienic true in
theorem Tm {v:Val} {H:Hp} {xs:List Val} {l:Nat} (h:Jr v H=some (xs,l)):v=.loc l /\ H[l]?=some (.list xs):=by
  unfold Jr at h
  split at h
  · split at h
    · rename_i hl;cases h;exact ⟨rfl,hl⟩
    · exact Ae h
  · exact Ae h
noncomputable abbrev loopK (cx:Cx) (A:Around) (env:Env) (target:Expr) (stmts:List Stmt) (zv:Value):(Flow -> Shared -> Prop) -> (Value -> Shared -> Prop) -> Shared -> Prop:=fun Q E s =>
  wpAny (model cx.prog cx.w) A (pyIter zv) (fun it s₂=>codeAny (model cx.prog cx.w) A (.forLoop target it stmts [] env) (fun r s'=>match r with | .ok f=>Q f s' | .error e=>cameBackBy (model cx.prog cx.w) A env E e s') s₂) E s
theorem Q2 {target:Expr} {stmts:List Stmt} {zv:Value}:Qo (loopK cx A env target stmts zv):=by
  intro Q E Q' E' s h k1 k2
  exact wpAny_mono h (fun it s₂ h2=>codeAny_mono h2 fun r s' hr=>by
    cases r with
    | ok f=>exact k1 _ _ hr
    | error e=>exact Hq hr k2) k2
structure EnOk (cx:Cx) (xs:List Val) (l1:Nat) (e it:Addr) (i:Nat) (ρ:Rho) (h:Heap):Prop where
  en:∃ old,IsEnum h e it i old
  it1:∃ p,ρ[l1]?=some p /\ h.IsListIter it p.1 i
  no:¬ A1 ρ e /\ ¬ A1 ρ it
noncomputable def W4 (hh:A.handled=none) (xs:List Val) (I:Addr) (l1:Nat) (elts:List Expr) (k:Nat) (pt:Pos):Walk cx A (.ref I) (.Tuple elts k pt) xs (chk (some l1) xs) where
  Ok i ρ h:=ItOk cx xs I i ρ h (some l1) /\ ¬ A1 ρ I
  priv:=[I]
  obj:=fun ⟨h1,h2⟩ q hq=>by rw [List.mem_singleton.mp hq];exact ⟨h1.obj,h2⟩
  step:=fun ⟨h1,h2⟩ st k=>⟨h1.step st (k I (.head _)).1,(k I (.head _)).2⟩
  item:=by
    intro i ρ H s m Q E E' QQ R ⟨ok,no⟩ ck hx hb qq k
    refine ex1 ok.obj fun o zz=>Ad zz fun e io=>?_
    refine Jz R ok ck hx fun v h' tk hs hl kk=>qq v _ ?_
    obtain ⟨o',e'⟩:=hl
    have st:Step ρ s.heap ρ h':=Step.but e' e hs io.not.1 io.not.2
    obtain ⟨vr,ok'⟩:=kk st
    have done:=k v h' tk (R.but e' e hs io.not.1 io.not.2 no (hb I (.head _))) st (fun b o nb _ eb=>by rw [hs.2 b (fun w=>nb (w▸.head _))];exact eb) (SameBut.live hs e') vr ⟨ok',no⟩
    cases ok' with
    | list hp hi =>
      cases v with
      | ref T=>exact wpAny_letOwnedTupleGo_listiter hi done
      | _=>exact wpAny_pure done
  fin:=by
    intro i ρ H s Q E R ⟨ok,no⟩ ck hx hb k
    refine ex1 ok.obj fun o zz=>Ad zz fun e io=>?_
    refine iter_end hh R ok ck hx fun h' tk he=>?_
    exact k h' tk (R.ext e he io.not.1 io.not.2 no (hb I (.head _))) (Step.ext e he io.not.1 io.not.2) fun b o nb _ eb=>he b o (fun w=>nb (w▸.head _)) eb
theorem Nc {i j:Nat} {it:ME} {body:MSs} {y z:Str} {x:Expr} {stmts:List Stmt} {py pz pt pos:Pos} {kk:Nat} (hh:A.handled=none) (hfr:A.frames=some (env :: l)) (ha:Da ns) (hy:Ft sc ns i y=true) (hz:Ft sc ns j z=true) (hn:D6 x=true)
    (hx:∀ Γ:Env',Γ.length=ns.length -> EOk cx A ((Amb.env cx env sc ns Γ).and (Amb.frames cx (env :: l))) Φ env Γ it x) (hb:Gz cx A (env :: l) env sc ns (execs stmts env) (execSs cx.T Φ body)) :
    Gz cx A (env :: l) env sc ns (exec (.For (.Tuple [.Name y py,.Name z pz] kk pt) x stmts [] pos) env) (Dg cx.T Φ (.eachPair i j it body)):=by
  intro Γ H ρ s R e0 fr
  refine B3.to ?_
  refine Cn.bindK (K:=fun xv=>loopK cx A env (.Tuple [.Name y py,.Name z pz] kk pt) stmts xv) e0 ((hx Γ e0.len).val H ρ s R ⟨e0,fr⟩) ?_ (fun _=>Q2) ?_
  · intro v xv H1 ρ1 s1 _ F1 R1 e1 vr
    refine B3.look fun pr hp=>?_
    obtain ⟨xs,src⟩:=pr
    obtain ⟨rfl,H1'⟩:=Tm hp
    refine B3.ofPost fun Q E nb p=>?_
    refine Ig (xs:=xs) (src:=some src) R1 vr (Sc H1') fun o go it0=>?_
    have F2:Full ρ1 s1.heap ρ1 (s1.heap.push o):=Full.push _ _ _
    exact Ps (W4 hh xs s1.heap.objs.size src [.Name y py,.Name z pz] kk pt) hfr (Tl hh ha hy hz) hb e1 ((Amb.frames cx (env :: l)).st _ _ _ _ fr F1) (fun b o e=>⟨o,R1.base b o e⟩) (fun q hq=>by rw [List.mem_singleton.mp hq];exact Ar _) F2.toS (R1.push o s1.toks) (e1.full F2) ⟨it0,R1.fresh_not (Ar _)⟩ nb p
  · intro Q E h
    exact wpAny_For h (fun xv=>Es hn env xv)
end
section
variable {cx:Cx} {N:Names} {A:Around} {Φ:Funs} {l:List Env} {d:Nat} {env:Env} {sc csc:Scope} {ns:List (Option Str)} {Γ:Env'} {H:Hp} {ρ ρ':Rho} {s:Shared}
theorem J1 {m:ME} {x:Expr} {t:Option Expr} {ln:Nat} (h:ck N sc ns m x=true) (hm:∀ a b c,m≠.comp a b c):swapsWith x t ln env=pure false:=by
  have z:=Sx h
  have hc:Y4 m=false:=by cases m <;> first | rfl | exact absurd rfl (hm _ _ _)
  rw [hc] at z
  cases x <;> first | rfl | exact Aq z
theorem Q3 {x:Expr} {y:Str} {py:Pos} {ln:Nat}:swapsWith x (some (.Name y py)) ln env=pure true \/ swapsWith x (some (.Name y py)) ln env=pure false:=by
  have:∃ b,swapsWith x (some (.Name y py)) ln env=pure b:=by cases x <;> exact ⟨_,rfl⟩
  obtain ⟨b,e⟩:=this
  cases b
  · exact .inr e
  · exact .inl e
theorem D0 {i:Nat} {m:ME} {y:Str} {x:Expr} {py pos:Pos} (ha:Da ns) (ho:Ft sc ns i y=true) (hs:swapsWith x (some (.Name y py)) pos.line env=pure false)
    (hx:∀ Γ:Env',Γ.length=ns.length -> EOk cx A ((Amb.env cx env sc ns Γ).and (Amb.frames cx l)) Φ env Γ m x) :
    Gz cx A l env sc ns (exec (.Assign [.Name y py] x pos) env) (Dg cx.T Φ (.assign i m)):=by
  intro Γ H ρ s R e0 fr
  refine B3.to (Cn.bindK (K:=fun v Q E s=>wpAny (model cx.prog cx.w) A (storeName env y v) (fun _=>Q .next) E s) e0 ((hx Γ e0.len).val H ρ s R ⟨e0,fr⟩) (fun b v H1 ρ1 s1 _ F1 R1 e1 vr=>Th ha R1 e1 ho vr) (fun _=>On) fun Q E h=>wpAny_Assign_Name h hs)
theorem J2 (hh:A.handled=none) {i:Nat} {elt it:ME} {cond:MEo} {e x:Expr} {t y:Str} {ifs:List Expr} {tp py cp pos:Pos} (ha:Da ns) (ho:Ft sc ns i y=true) (hs:swapsWith (.ListComp e [⟨.Name t tp,x,ifs,0⟩] csc cp) (some (.Name y py)) pos.line env=pure true) (hi:D6 x=true) (hc:Jx sc csc t=true)
    (pt:CParts cx A Φ l csc (Ep csc ns++[some t]) cond elt ifs e) (hx:∀ Γ:Env',Γ.length=ns.length -> EOk cx A ((Amb.env cx env sc ns Γ).and (Amb.frames cx l)) Φ env Γ it x) :
    Gz cx A l env sc ns (exec (.Assign [.Name y py] (.ListComp e [⟨.Name t tp,x,ifs,0⟩] csc cp) pos) env) (Dg cx.T Φ (.assign i (.comp elt it cond))):=by
  refine Av (B2 hc) fun c1 c2 c3=>?_
  intro Γ H ρ s R e0 fr
  rw [R8,Nb]
  have assoc:∀ (m:M Val) (f:Val -> M Val) (g:Val -> Hp -> ResS) (H:Hp),Hf (m.bnd f) Γ g H=Hf m Γ (fun v=>Hf (f v) Γ g) H:=by
    intro m f g H
    unfold Hf M.bnd
    cases m H <;> rfl
  rw [assoc]
  refine B3.to (Cn.bindK (K:=fun xv Q E s=>wpAny (model cx.prog cx.w) A (pyIter xv) (fun it s₂=>wpAny (model cx.prog cx.w) A (newList []) (fun acc s₃=>wpAny (model cx.prog cx.w) A (newFunctionEnv csc env.globals (Fu env csc.names []) [] env.qual none .none (some env)) (fun cenv s₄ =>
      codeAny (model cx.prog cx.w) A (.compStart (.ListComp e [⟨.Name t tp,x,ifs,0⟩] csc cp) 0 it acc { cenv with scope:=relabel csc env }) (compPost (model cx.prog cx.w) A E (some (assign (.Name y py) env)) (fun _ s'=>Q .next s') acc cenv.locals) s₄) E s₃) E s₂) E s) e0 ((hx Γ e0.len).val H ρ s R ⟨e0,fr⟩) ?_ ?_ ?_)
  · intro v xv H1 ρ1 s1 _ F1 R1 e1 vr
    rcases Gw (T:=cx.T) (Φ:=Φ) (cond:=cond) (elt:=elt) (Γ:=Γ) (v:=v) (H:=H1) with w | ⟨xs,src,ys,H₂,w1,w2,w3,w4⟩
    · unfold Hf;rw [w];trivial
    · unfold Hf;rw [w4]
      refine Lc hh hc ha e1.len pt R1 e1 ((Amb.frames cx l).st _ _ _ _ fr F1) vr w1 w2 w3 fun D C ρ' s' F' R' v' m' n' hC=>?_
      obtain ⟨m,hm⟩:=m'
      have e':=e1.full F'
      have lvB:Fh cx.h₀ s1.heap:=fun b o e=>⟨o,R1.base b o e⟩
      refine wpAny_assign_Name (Ej e'.len ha R' e' ho v' fun h2 tk2 F2 R2 e2 hq=>?_)
      refine Ah fun G kG=>?_
      refine ex2 hq fun q oq zz=>Av zz fun hqd hqs gq=>?_
      have live:∀ {b:Addr},(∃ o,s1.heap.get? b=some o) -> b≠C:=fun ⟨o,eo⟩ w=>by rw [w,hC] at eo;exact Ae eo
      have locL:env.locals≠C:=live (by refine ex1 e1.st.loc fun m zz=>ex3 zz fun o es ep zz=>Ad zz fun e _=>?_;exact ⟨o,e⟩)
      have celL:∀ z c,env.cells.lookup z=some c -> c≠C:=fun z c hc=>live (by obtain ⟨⟨v,o,e,_⟩,_⟩:=e1.st.cells z c hc;exact ⟨o,e⟩)
      have qC:C≠q:=by
        rcases hqd with ⟨_,rfl⟩ | ⟨_,w⟩
        · exact locL.symm
        · exact (celL y q w).symm
      have hm2:h2.Ns C m:=Bl hm fun o eo=>⟨o,by rw [hqs.2 C qC];exact eo,rfl⟩
      refine ex1 (Tc hm2) fun oC zz=>Av zz fun gC nf nx=>?_
      refine kG ?_
      refine ⟨m,hm2,fun h3 hs3=>?_⟩
      have st:Step ρ' h2 ρ' h3:=Step.ext gC hs3.extBut nf nx
      have FF:FullS env ρ1 s1.heap ρ' h2:=F'.toS.trans F2
      refine ⟨rfl,ρ',?_,R2.ext (tk:=tk2) gC hs3.extBut nf nx n' (lvB.none hC),e2.but hs3.extBut locL.symm (fun z w=>celL z C w rfl) st⟩
      refine ⟨FF.grow,fun b o eb n n1 n2=>?_,fun b o eb=>?_⟩
      · refine ex1 (FF.keep b o eb n n1 n2) fun o' zz=>Ad zz fun e' u=>?_
        exact ⟨o',hs3.extBut b o' (live ⟨o,eb⟩) e',u⟩
      · obtain ⟨o',e'⟩:=FF.live b o eb
        exact ⟨o',hs3.extBut b o' (live ⟨o,eb⟩) e'⟩
  · intro xv Q E Q' E' s h k1 k2
    exact wpAny_mono h (fun it s₂ h2=>wpAny_mono h2 (fun acc s₃ h3=>wpAny_mono h3 (fun cenv s₄ h4=>codeAny_mono h4 fun r s' hr=>Ho hr (fun _ s=>k1 _ s) k2) k2) k2) k2
  · intro Q E h
    rw [exec_Assign_Name_used _ _ _ _ hs]
    refine wpAny_bind (wpAny_standAt (wpAny_bind ?_))
    show wpAny _ A (do let _ <- comprehension (.ListComp e [⟨.Name t tp,x,ifs,0⟩] csc cp) csc env _ (newList []) false (eval x env) (some (assign (.Name y py) env))) _ _ s
    refine wpAny_bind (wpAny_mono (wpAny_comprehension_free (use:=some (assign (.Name y py) env)) (Q:=fun _ s'=>Q .next s') (g:=⟨.Name t tp,x,ifs,0⟩) (gs:=[]) rfl (fun xv=>Es hi env xv)
      (Hn fun p' hp' hf=>e0.st.hasCell p'.1 (by rcases (c3 p' hp').2 hf with w | w;exact .inl w;exact .inr w)) c1 (fun p' hp' hl=>by rw [(c3 p' hp').1,hl]) h) (fun _ s' hq=>wpAny_pure (wpAny_pure hq)) fun _ _ e=>e)
theorem Q4 (G:Ground cx N A Φ l d) {i:Nat} {m:ME} {y:Str} {x:Expr} {py pos:Pos} (ha:Da ns) (ho:Ft sc ns i y=true) (hm:ck N sc ns m x=true) :
    Gz cx A l env sc ns (exec (.Assign [.Name y py] x pos) env) (Dg cx.T Φ (.assign i m)):=by
  rcases Q3 (env:=env) (x:=x) (y:=y) (py:=py) (ln:=pos.line) with hs | hs
  · by_cases hc:∃ a b c,m=.comp a b c
    · refine ex3 hc fun elt it cond zr3=>?_;subst zr3
      refine ex7 (Pm hm) fun el t px i' ifs csc cp zz=>Lp zz fun zr7 h1 h2 h3 h4 h5=>?_;subst zr7
      exact J2 G.room.hh ha ho hs h2 h3 ⟨fun cenv Γ' hΓ'=>econd G cond ifs cenv csc _ Γ' h5 (F6 ha (B2 h3).2.1) hΓ',fun cenv Γ' hΓ'=>(eok G elt el cenv csc _ Γ' h4 (F6 ha (B2 h3).2.1) hΓ').val⟩
        fun Γ hΓ=>eok G it i' env sc ns Γ h1 ha hΓ
    · have:=J1 (env:=env) (t:=some (.Name y py)) (ln:=pos.line) hm fun a b c w=>hc ⟨a,b,c,w⟩
      exact D0 ha ho this fun Γ hΓ=>eok G m x env sc ns Γ hm ha hΓ
  · exact D0 ha ho hs fun Γ hΓ=>eok G m x env sc ns Γ hm ha hΓ
end
section
variable {cx:Cx} {N:Names} {A:Around} {Φ:Funs} {l:List Env} {d:Nat} {env:Env} {sc:Scope} {ns:List (Option Str)} {Γ:Env'} {H:Hp} {ρ:Rho} {s:Shared}
theorem Q5 {v m:Val} {n:Nat} {u:Unit} {H':Hp} (h:Bx v n m H=.ok u H'):∃ i c fs,v=.loc i /\ H[i]?=some (.inst c fs) /\ H'=H.set i (.inst c (Rx fs n m)):=by
  unfold Bx at h
  split at h
  · split at h
    · cases h;exact ⟨_,_,_,rfl,by assumption,rfl⟩
    · exact Ee h
  · exact Ee h
theorem Ma {v m:Val} {n c:Nat} {H':Hp} (h:Bx v n m H=.exc c H'):False:=by
  unfold Bx at h
  split at h
  · split at h <;> cases h
  · cases h
theorem Q6 {x p:Expr} {y:Str} {q:Pos} {ln:Nat}:swapsWith x (some (.Attribute p y q)) ln env=pure false:=by cases x <;> rfl
theorem Oo (G:Ground cx N A Φ l d) {o e:ME} {n:Nat} {p x:Expr} {y:Str} {q pos:Pos} (ha:Da ns) (hx:ck N sc ns e x=true) (hp:ck N sc ns o p=true) (hn:D8 N.attrs y n=true) :
    Gz cx A l env sc ns (exec (.Assign [.Attribute p y q] x pos) env) (Dg cx.T Φ (.setattr o n e)):=by
  intro Γ H ρ s R e0 fr
  refine B3.to (Cn.bindK (K:=fun v Q E s=>wpAny (model cx.prog cx.w) A (eval p env) (fun ov s₂=>wpAny (model cx.prog cx.w) A (setAttr ov y v) (fun _=>Q .next) E s₂) E s) e0 ((eok G e x env sc ns Γ hx ha e0.len).val H ρ s R ⟨e0,fr⟩) ?_ ?_ fun Q E h=>plainObj_wpAny_Assign_Attribute h Q6)
  · intro b v H1 ρ1 s1 _ F1 R1 e1 vr
    refine Cn.bindK (K:=fun ov Q E s=>wpAny (model cx.prog cx.w) A (setAttr ov y v) (fun _=>Q .next) E s) e1 ((eok G o p env sc ns Γ hp ha e1.len).val H1 ρ1 s1 R1 ⟨e1,fr.full F1⟩) ?_ ?_ (fun Q E h=>h)
    · intro b2 ov H2 ρ2 s2 _ F2 R2 e2 vo
      have vo':VR cx ρ2 s2.heap b2 ov:=vo
      unfold Hf
      cases hr:Bx b2 n b H2 with
      | bad=>trivial
      | exc c H3=>exact (Ma hr).elim
      | ok u H3 =>
        refine ex3 (Q5 hr) fun i c fs zz=>Av zz fun zr3 hi zr5=>?_;subst zr3;subst zr5
        refine ex1 vo'.loc_inv fun p1 zz=>Ad zz fun hp1 hr0=>?_;refine Eq.symm hr0▸?_
        exact Qy G.base.cls R2 hi hp1 (G.base.cls.attr y n (Cw hn)) (VR.step F2.step vr) fun s' F R'=>⟨rfl,ρ2,F.toS,R',e2.full F⟩
    · exact fun _ Q E Q' E' s h k1 k2=>wpAny_mono h (fun _ _=>k1 _ _) k2
  · exact fun _ Q E Q' E' s h k1 k2=>wpAny_mono h (fun _ _ h'=>wpAny_mono h' (fun _ _=>k1 _ _) k2) k2
theorem Tn (G:Ground cx N A Φ (env :: l) d) {c:ME} {b:MSs} {x:Expr} {ts:List Stmt} {pos:Pos} (ha:Da ns) (hc:ck N sc ns c x=true) (hb:Gz cx A (env :: l) env sc ns (execs ts env) (execSs cx.T Φ b)) :
    Gz cx A (env :: l) env sc ns (exec (.While x ts [] pos) env) (Dg cx.T Φ (.loop c b)):=by
  intro Γ₀ H₀ ρ₁ s₁ R₀ e₁ fr
  rw [Aae]
  refine B3.to (B3.ofPost fun Q E nb p=>wpAny_While ?_)
  generalize hres:Iy (fun Γ=>(Am cx.T Φ c Γ).bnd C8) (execSs cx.T Φ b) Ql Γ₀ H₀=res at nb p
  refine codeAny_whileLoop (fun n s=>∃ Γ H ρ,FullS env ρ₁ s₁.heap ρ s.heap /\ Rel cx H ρ s /\ EnvOk cx env sc ns Γ ρ s.heap /\ Iy (fun Γ=>(Am cx.T Φ c Γ).bnd C8) (execSs cx.T Φ b) n Γ H=res) ?_ Ql ⟨Γ₀,H₀,ρ₁,FullS.refl _ _ _,R₀,e₁,hres⟩
  intro n s zz
  refine ex3 zz fun Γ H ρ zz=>Cg zz fun F R e0 hr=>?_
  cases n with
  | zero=>exact absurd hr.symm nb
  | succ n =>
    rw [Jq] at hr
    have fr0:A0 cx (env :: l) ρ s.heap:=fr.stmt F e₁.st e0.st
    have C:=(eok G c x env sc ns Γ hc ha e0.len).tru H ρ s R ⟨e0,fr0⟩
    cases hcd:((Am cx.T Φ c Γ).bnd C8) H with
    | bad=>rw [hcd] at hr;exact absurd hr.symm nb
    | exc k H1=>rw [hcd] at hr;exact absurd hr.symm nb
    | ok t H1 =>
      rw [hcd] at hr C
      refine wpAny_mono C (fun t' s2 ⟨ρ2,F2,R2,ht⟩=>?_) fun _ _ q=>q.elim
      have ht':t'=t:=ht
      subst ht'
      have e2:=e0.full F2
      have F12:=F.trans F2.toS
      cases t' with
      | false =>
        dsimp only at hr
        subst hr
        exact wpAny_execs_nil (p s2 ρ2 F12 R2 e2)
      | true =>
        dsimp only at hr
        rw [if_pos rfl]
        have B:=hb Γ H1 ρ2 s2 R2 e2 (fr0.full F2)
        cases hbd:execSs cx.T Φ b Γ H1 with
        | bad=>rw [hbd] at hr;exact absurd hr.symm nb
        | exc k Γ3 H3=>rw [hbd] at hr;exact absurd hr.symm nb
        | next Γ3 H3 =>
          rw [hbd] at hr B
          refine wpAny_mono B (fun f s3 q=>?_) fun _ _ q=>q.elim
          refine Ad q fun zr0 zz=>ex1 zz fun ρ3 zz=>Av zz fun F3 R3 e3=>?_;subst zr0
          exact ⟨n,Nat.lt_succ_self n,Γ3,H3,ρ3,F12.trans F3,R3,e3,hr⟩
        | ret v H3 =>
          rw [hbd] at hr B
          subst hr
          refine wpAny_mono B (fun f s3 q=>?_) fun _ _ q=>q.elim
          refine Ah fun G kG=>?_
          refine ex2 q fun v' ρ3 zz=>Cg zz fun zr2 F3 R3 vr3=>?_;subst zr2
          refine kG ?_
          exact p s3 ρ3 v' (F12.trans F3) R3 vr3
end
section
variable {cx:Cx} {N:Names} {A:Around} {Φ:Funs} {l:List Env} {d:Nat} {env:Env} {sc:Scope} {ns:List (Option Str)} {Γ:Env'} {H:Hp} {ρ:Rho} {s:Shared}
set_option maxRecDepth 100000 in
theorem Q7 {a:Addr} {vs:List Value} {n:Nat} {k:Int} {t:Tok} {v:Value} {Q:Unit -> Shared -> Prop} {E:Value -> Shared -> Prop} (g:s.heap.get? a=some (B1 vs n)) (h0:0 <= k) (hk:k < vs.length) (hf:k < 2 ^ 63)
    (hQ:Q () { s with heap:=s.heap.update a (Obj.mapSeq (·.setIfInBounds k.toNat v)) }):wpAny (model cx.prog cx.w) A (setItem (.ref a) (.int k t) v) Q E s:=by
  have hl:s.heap.IsList a vs.toArray:=⟨_,g,rfl,n,rfl⟩
  unfold setItem
  try with_reducible refine wpAny_holding ?_
  first | refine wpAny_bind (wpAny_pure ?_) | skip
  refine wpAny_bind (wpAny_sequenceKey hl.typeIs (by decide) ?_)
  refine wpAny_bind (wpAny_callSpecial?_slot (name:=Str.ofString "__setitem__") hl.typeIs slot_list_setitem (wpAny_call_entry slot_list_setitem hl.typeIs entry_list_setitem ?_ (args_list_setitem _ _ _)))
  show wpAny _ _ (Builtin.List.listSubscript? (.int k t)>>=_) _ _ s
  refine wpAny_bind (wpAny_listSubscript_int (fitsIndex_of h0 hf) ?_)
  clear hf
  obtain ⟨j,rfl⟩:=Int.eq_ofNat_of_zero_le h0
  have hj:j < vs.toArray.size:=by simp only [List.size_toArray];exact o43 hk
  have hx':vs.toArray[j]?=some vs.toArray[j]:=Array.getElem?_eq_getElem hj
  refine wpAny_bind (wpAny_bind (wpAny_seqItemAt g rfl (wpAny_pure ?_)))
  rw [hx']
  refine wpAny_bind (wpAny_setSeqItemAt g rfl ?_)
  first
    | exact wpAny_bind (wpAny_pure (wpAny_pure ⟨.none,rfl,wpAny_pure hQ⟩))
    | exact wpAny_pure ⟨.none,rfl,wpAny_pure hQ⟩
theorem VRs.setArr {xs:List Val} {vs:List Value} {m:Val} {v:Value} {h:Heap} (r:VRs cx ρ h xs vs) (k:Nat) (a:VR cx ρ h m v):VRs cx ρ h (xs.set k m) (vs.toArray.setIfInBounds k v).toList:=by
  have:(vs.toArray.setIfInBounds k v).toList=vs.set k v:=by simp
  rw [this];exact r.set k a
set_option tactic.hygienic true in
theorem Q8 {o i m:Val} {u:Unit} {H':Hp} (h:Ax o i m H=.ok u H'):∃ l,o=.loc l /\ ((∃ xs k,H[l]?=some (.list xs) /\ i=.int k /\ 0 <= k /\ k < xs.length /\ H'=H.set l (.list (xs.set k.toNat m))) \/
    ∃ es k,H[l]?=some (.dict es) /\ Ef i=some k /\ es.length < lid /\ H'=H.set l (.dict (Fb es k m))):=by
  unfold Ax at h
  split at h
  · rename_i l
    split at h
    · rename_i xs hl
      split at h
      · rename_i k
        by_cases q:0 <= k /\ k < xs.length
        · rw [if_pos q] at h;cases h;exact ⟨l,rfl,.inl ⟨xs,k,hl,rfl,q.1,q.2,rfl⟩⟩
        · rw [if_neg q] at h;exact Ee h
      · exact Ee h
    · rename_i es hl
      split at h
      · rename_i k hk
        by_cases q:es.length < lid
        · rw [if_pos q] at h;cases h;exact ⟨l,rfl,.inr ⟨es,k,hl,hk,q,rfl⟩⟩
        · rw [if_neg q] at h;exact Ee h
      · exact Ee h
    · exact Ee h
  · exact Ee h
theorem Mb {o i m:Val} {c:Nat} {H':Hp} (h:Ax o i m H=.exc c H'):False:=by
  unfold Ax at h
  split at h
  · split at h
    · split at h
      · split at h <;> cases h
      · cases h
    · split at h
      · split at h <;> cases h
      · cases h
    · cases h
  · cases h
theorem Q9 (hu:A.units+100 < cLine) (R:Rel cx H ρ s) {l:Nat} {p:Addr × Addr} {es:List (Key × Val)} {i m:Val} {k:Key} {iv v:Value} {Q:Unit -> Shared -> Prop} {E:Value -> Shared -> Prop} (hp:ρ[l]?=some p) (hl:H[l]?=some (.dict es)) (hk:Ef i=some k) (q:es.length < lid)
    (xi:VR cx ρ s.heap i iv) (xm:VR cx ρ s.heap m v) (hQ:∀ h' tk,Full ρ s.heap ρ h' -> Rel cx (H.set l (.dict (Fb es k m))) ρ { s with heap:=h',toks:=tk } -> Q () { s with heap:=h',toks:=tk }):wpAny (model cx.prog cx.w) A (setItem (.ref p.1) iv v) Q E s:=by
  refine Ah fun G kG=>?_
  refine ex1 (R.dictAt hl hp) fun xs zz=>Cg zz fun hpp D rr z=>?_
  refine ex1 (Pg xi hk) fun bb zz=>Av zz fun zr1 hb no=>?_;subst zr1
  refine kG ?_
  refine wpAny_setItem_heap (knd:=cellKind cx) (tupleKind_room_in1 (by exact o7 hu)) hb D (fun h' hm hs=>?_) (by rw [rr.length];exact z)
  refine Ah fun G kG=>?_
  refine ex3 D fun _ _ _ zz=>Lp zz fun _ _ _ _ ks nd=>?_
  rw [Dr] at q
  obtain ⟨F,R'⟩:=Pi (tk:=s.toks+(cellKind cx).draws [k.1,k.2]) R hp hpp hm hs (Od ks hb) (rr.put nd xm no) (Nat.le_trans (Oe es k m) q)
  refine kG ?_
  exact hQ h' _ F R'
theorem Ra {x p i:Expr} {q:Pos} {ln:Nat}:swapsWith x (some (.Subscript p i q)) ln env=pure false:=by cases x <;> rfl
theorem Op (G:Ground cx N A Φ l d) {o i e:ME} {p j x:Expr} {q pos:Pos} (ha:Da ns) (hx:ck N sc ns e x=true) (hp:ck N sc ns o p=true) (hi:ck N sc ns i j=true) :
    Gz cx A l env sc ns (exec (.Assign [.Subscript p j q] x pos) env) (Dg cx.T Φ (.setitem o i e)):=by
  intro Γ H ρ s R e0 fr
  refine B3.to (Cn.bindK (K:=fun v Q E s=>wpAny (model cx.prog cx.w) A (eval p env) (fun ov s₂=>wpAny (model cx.prog cx.w) A (eval j env) (fun iv s₃=>wpAny (model cx.prog cx.w) A (setItem ov iv v) (fun _=>Q .next) E s₃) E s₂) E s) e0 ((eok G e x env sc ns Γ hx ha e0.len).val H ρ s R ⟨e0,fr⟩) ?_ ?_ fun Q E h=>wpAny_Assign_Subscript h Ra)
  · intro b v H1 ρ1 s1 _ F1 R1 e1 vr
    refine Cn.bindK (K:=fun ov Q E s=>wpAny (model cx.prog cx.w) A (eval j env) (fun iv s₃=>wpAny (model cx.prog cx.w) A (setItem ov iv v) (fun _=>Q .next) E s₃) E s) e1 ((eok G o p env sc ns Γ hp ha e1.len).val H1 ρ1 s1 R1 ⟨e1,fr.full F1⟩) ?_ ?_ (fun Q E h=>h)
    · intro b2 ov H2 ρ2 s2 _ F2 R2 e2 vo
      refine Cn.bindK (K:=fun iv Q E s=>wpAny (model cx.prog cx.w) A (setItem ov iv v) (fun _=>Q .next) E s) e2 ((eok G i j env sc ns Γ hi ha e2.len).val H2 ρ2 s2 R2 ⟨e2,(fr.full F1).full F2⟩) ?_ ?_ (fun Q E h=>h)
      · intro b3 iv H3 ρ3 s3 _ F3 R3 e3 vi
        have vo':VR cx ρ3 s3.heap b2 ov:=VR.step F3.step vo
        have vi':VR cx ρ3 s3.heap b3 iv:=vi
        have vr':VR cx ρ3 s3.heap b v:=VR.step F3.step (VR.step F2.step vr)
        unfold Hf
        cases hr:Ax b2 b3 b H3 with
        | bad=>trivial
        | exc c H4=>exact (Mb hr).elim
        | ok u H4 =>
          refine ex1 (Q8 hr) fun a zz=>Ad zz fun zr1 hs=>?_;subst zr1
          refine ex1 vo'.loc_inv fun p1 zz=>Ad zz fun hp1 hr1=>?_;refine Eq.symm hr1▸?_
          rcases hs with ⟨xs,k,hl,rfl,k0,k1,rfl⟩ | ⟨es,k,hl,hk,q,rfl⟩
          · refine Ah fun G kG=>?_
            obtain ⟨t,rfl⟩:=vi'.int_inv
            refine ex2 (R3.listAt hl hp1) fun vs n zz=>Cg zz fun hpp g rr z=>?_
            refine kG ?_
            have z':=z
            rw [sizeLine_eq] at z'
            refine Q7 g k0 (by rw [<- rr.length];exact k1) (by omega) ?_
            refine ex1 (Hl (b:=.none) (v:=.none) (ys:=xs.set k.toNat b) R3 hp1 hpp g (fun w=>w.setIfInBounds k.toNat v) (rr.setArr k.toNat vr') (by rw [List.length_set];exact z) fun _ _=>.none) fun ρ' zz=>Av zz fun F R' _=>?_
            exact ⟨rfl,ρ',F.toS,R',e3.full F⟩
          · exact Q9 G.u R3 hp1 hl hk q vi' vr' fun h' tk F R'=>⟨rfl,ρ3,F.toS,R',e3.full F⟩
      · exact fun _ Q E Q' E' s h k1 k2=>wpAny_mono h (fun _ _=>k1 _ _) k2
    · exact fun _ Q E Q' E' s h k1 k2=>wpAny_mono h (fun _ _ h'=>wpAny_mono h' (fun _ _=>k1 _ _) k2) k2
  · exact fun _ Q E Q' E' s h k1 k2=>wpAny_mono h (fun _ _ h'=>wpAny_mono h' (fun _ _ h2=>wpAny_mono h2 (fun _ _=>k1 _ _) k2) k2) k2
end
section
variable {cx:Cx} {N:Names} {A:Around} {Φ:Funs} {l:List Env} {d:Nat} {env:Env} {sc:Scope} {ns:List (Option Str)} {Γ:Env'} {H:Hp} {ρ ρ':Rho} {s:Shared}
theorem To (G:Ground cx N A Φ l d) (ha:Da ns) {c:Nat} {x msg:Str} {np cpos pos:Pos} {k:Nat} {mp:Pos} (hg:B5 sc x=true) (hn:D8 N.clss x c=true) (hck:ckEs N sc ns (.cons (.str msg) .nil) [.Constant (.str msg) k mp]=true) :
    Gz cx A l env sc ns (exec (.Raise (some (.Call (.Name x np) [.Constant (.str msg) k mp] [] cpos)) none pos) env) (Dg cx.T Φ (.raise c msg)):=by
  intro Γ H ρ s R e0 fr
  rw [V7]
  by_cases hi:¬ cx.T.isExc c=true
  · rw [if_neg hi];trivial
  have hi:cx.T.isExc c=true:=Classical.not_not.mp hi
  rw [if_pos hi]
  refine ex1 (G.base.exc c hi) fun C zz=>Ad zz fun hC ok=>?_
  refine ex2 G.base.ns fun mg mb zz=>Lp zz fun ng nb _ _ q _=>?_
  refine ex1 (q x c (Cw hn)) fun Cv zz=>Ad zz fun hC' hx=>?_
  rw [hC] at hC';cases hC'
  refine V3 ok.is fun nm qn Nn bs bm hdct sn sub ab col dd k0 k1 k2 zz=>ex3 zz fun k3 k5 mN zz=>Fc zz fun hCo hNs hin tl _=>?_
  have y:=eoks G (.cons (.str msg) .nil) [.Constant (.str msg) k mp] env sc ns Γ hck ha e0.len H ρ s R ⟨e0,fr⟩
  have ev:evalEs cx.T Φ (.cons (.str msg) .nil) Γ H=.ok [.str msg] H:=rfl
  rw [ev] at y
  have pl:=Au (env:=env) cpos (B7 hck)
  refine wpAny_Raise_call_subT (C:=C) (nm:=nm) (q:=qn) (N:=Nn) (bs:=bs) (hdct:=hdct) (sn:=sn) (sub:=sub) (ab:=ab) (col:=col) (dd:=dd) (k0:=k0) (k1:=k1) (k2:=k2) (k3:=k3) (k5:=k5) F.excBase_ValueError (mN:=mN) (bm:=bm) (tl.hasType (by decide)) G.room.hh (by rw [pl];exact Ei _) hin ?_
  refine wp_glob R e0.st hg ng nb hx ⟨rfl,?_⟩
  rw [pl]
  refine Calls.evalArgs_plain (wpAny_mono y (fun vs s' ⟨ρ',F,R',vrs⟩=>?_) fun _ _ q=>q.elim)
  refine ⟨rfl,by have:=vrs.length;skip;rw [<- this];show 1 <= 16777216;decide,R'.base _ _ hCo,hNs.keeps R'.base,tl.keeps R'.base,fun h' e m=>?_⟩
  have F':Full ρ s.heap ρ' h':=F.trans (Full.more m.keeps)
  refine Ah fun G kG=>?_
  refine ex1 m.there fun t zz=>Av zz fun ht _ _=>?_
  refine kG ?_
  exact ⟨ρ',F'.toS,R'.more (tk:=s'.toks) m.keeps,e0.full F',e,C,_,rfl,hC,F.live.none m.new,ht,rfl,R'.fresh_not m.new,.inl rfl⟩
end
structure GroundC (cx:Cx) (N:Names) (A:Around) (Φ:Funs) (l:List Env) (K:Nat -> Bool):Prop where
  base:Base cx N
  u:A.units+100 < cLine
  funs:∀ (f:Nat) (a:Addr) (args:List Val) (vals:List Value),K f=true -> cx.fns[f]?=some a -> Sim cx A ((Amb.vrs cx args vals).and (Amb.frames cx l)) (call (.ref a) vals) (Φ f args) (Amb.vr cx)
  defs:∀ (f:Nat) (a:Addr),cx.fns[f]?=some a -> ∃ g,cx.T.funs[f]?=some g
section
variable {cx:Cx} {N:Names} {A:Around} {Φ:Funs} {l:List Env} {d:Nat} {K:Nat -> Bool} {env:Env} {sc:Scope} {ns:List (Option Str)} {Γ:Env'} {H:Hp} {ρ ρ':Rho} {s:Shared}
mutual
theorem Vz (G:GroundC cx N A Φ l K):∀ (m:ME) (e:Expr) (env:Env) (sc:Scope) (ns:List (Option Str)) (Γ:Env'),Jn K m=true -> ck N sc ns m e=true -> Da ns -> Γ.length=ns.length -> EOk cx A ((Amb.env cx env sc ns Γ).and (Amb.frames cx l)) Φ env Γ m e
  | .none,e,env,sc,ns,Γ,c,h,_,_=>by
    refine ex2 (Pj h) fun k pos hr0=>?_;refine Eq.symm hr0▸?_
    refine EOk.of (fun H ρ s R p=>?_) rfl
    exact At R fun Q E k=>wpAny_Constant_none (k _ s.toks .none)
  | .bool b,e,env,sc,ns,Γ,c,h,_,_=>by
    refine ex2 (Pk h) fun k pos zr2=>?_;subst zr2
    refine EOk.of (fun H ρ s R p=>?_) rfl
    exact At R fun Q E k=>wpAny_Constant_bool (k _ s.toks (.bool b))
  | .int i,e,env,sc,ns,Γ,c,h,_,_=>by
    refine ex2 (So h) fun k pos zr2=>?_;subst zr2
    refine EOk.of (fun H ρ s R p=>?_) rfl
    exact At R fun Q E k=>wpAny_Constant_int (k _ _ (.int _ _))
  | .str v,e,env,sc,ns,Γ,c,h,_,_=>by
    refine ex2 (Sp h) fun k pos zz=>Ad zz fun zr2 z=>?_;subst zr2
    refine EOk.of (fun H ρ s R p=>?_) rfl
    exact At R fun Q E k=>wpAny_Constant_str (k _ _ (.str _ _ (by rw [sizeLine_eq];exact o18 z)))
  | .var i,e,env,sc,ns,Γ,c,h,_,_=>by
    refine ex2 (Sq h) fun x pos zz=>Ad zz fun zr2 h1=>?_;subst zr2
    exact EOk.of (Sj h1 Φ).and1 rfl
  | .bin op a b,e,env,sc,ns,Γ,c,h,ha,hΓ=>by
    refine ex4 (Sr h) fun x o y pos zz=>Cg zz fun hr5 h1 h2 h3=>?_;refine Eq.symm hr5▸?_
    exact S3 h1 (Vz G a x env sc ns Γ (an1 c) h2 ha hΓ) (Vz G b y env sc ns Γ (an2 c) h3 ha hΓ)
  | .cmp op a b,e,env,sc,ns,Γ,c,h,ha,hΓ=>by
    refine ex3 (Ss h) fun x y pos zz=>Cg zz fun hr6 h1 h2 h3=>?_;refine Eq.symm hr6▸?_
    exact S4 G.u h3 (Vz G a x env sc ns Γ (an1 c) h1 ha hΓ) (Vz G b y env sc ns Γ (an2 c) h2 ha hΓ)
  | .call f es,e,env,sc,ns,Γ,c,h,ha,hΓ=>by
    refine ex4 (Pl h) fun x np xs pos zz=>Fc zz fun hr7 h1 h2 h3 h4=>?_;refine Eq.symm hr7▸?_
    refine EOk.of ?_ rfl
    refine ex2 G.base.ns fun mg mb zz=>Cg zz fun ng nb q _=>?_
    refine ex1 (q x f (Cw h2)) fun a zz=>Ad zz fun ha' _=>?_
    exact M8 G.base (fun a args vals h=>G.funs f a args vals (an1 c) h) h1 h2 (G.defs f a ha') h3 (eoksC G es xs env sc ns Γ (an2 c) h3 ha hΓ)
  | .bm a m es,e,env,sc,ns,Γ,c,h,ha,hΓ=>by
    refine ex5 (Y3 h) fun o y apos xs pos zz=>Mu zz fun zr5 h1 zr7 h3 h4 h5 h6=>?_;subst zr5;subst zr7
    refine EOk.of ?_ rfl
    exact Y2 h5 (B7 h4) (by rw [<- h3];cases m <;> decide) (fun e=>Fi (e▸h4)) h6 (Vz G a o env sc ns Γ (an2 (an1 c)) h1 ha hΓ).val (eoksC G es xs env sc ns Γ (an2 c) h4 ha hΓ)
      (fun b v ms vs hl=>Y7 G.u m b v ms vs (Y6 h3 hl)) (fun _ _ _ e=>Ch h4 e)
  | .isinst a t,e,env,sc,ns,Γ,c,h,ha,hΓ=>by
    refine ex6 (La h) fun f np x y yp pos zz=>Lp zz fun hr8 h1 h2 h3 h4 h5=>?_;refine Eq.symm hr8▸?_
    have z:=Vz G a x env sc ns Γ c h4 ha hΓ
    cases t with
    | cls c=>exact Pp G.base h1 h2 h3 h5 (Bm h4) z
    | int=>exact Ey G.base (fun c=>by intro q;cases q) h1 h2 h3 (of_decide_eq_true h5) (Bm h4) z
    | bool=>exact Ey G.base (fun c=>by intro q;cases q) h1 h2 h3 (of_decide_eq_true h5) (Bm h4) z
    | str=>exact Ey G.base (fun c=>by intro q;cases q) h1 h2 h3 (of_decide_eq_true h5) (Bm h4) z
    | tuple=>exact Ey G.base (fun c=>by intro q;cases q) h1 h2 h3 (of_decide_eq_true h5) (Bm h4) z
    | list=>exact Ey G.base (fun c=>by intro q;cases q) h1 h2 h3 (of_decide_eq_true h5) (Bm h4) z
  | .glob _,_,_,_,_,_,c,_,_,_=>by exact Aq c
  | .neg _,_,_,_,_,_,c,_,_,_=>by exact Aq c
  | .not _,_,_,_,_,_,c,_,_,_=>by exact Aq c
  | .and _ _,_,_,_,_,_,c,_,_,_=>by exact Aq c
  | .or _ _,_,_,_,_,_,c,_,_,_=>by exact Aq c
  | .cmp2 _ _ _ _ _,_,_,_,_,_,c,_,_,_=>by exact Aq c
  | .sub _ _,_,_,_,_,_,c,_,_,_=>by exact Aq c
  | .slice _ _ _,_,_,_,_,_,c,_,_,_=>by exact Aq c
  | .tup _,_,_,_,_,_,c,_,_,_=>by exact Aq c
  | .list _,_,_,_,_,_,c,_,_,_=>by exact Aq c
  | .dict,_,_,_,_,_,c,_,_,_=>by exact Aq c
  | .attr _ _,_,_,_,_,_,c,_,_,_=>by exact Aq c
  | .new _ _,_,_,_,_,_,c,_,_,_=>by exact Aq c
  | .umeth _ _ _,_,_,_,_,_,c,_,_,_=>by exact Aq c
  | .bf _ _,_,_,_,_,_,c,_,_,_=>by exact Aq c
  | .comp _ _ _,_,_,_,_,_,c,_,_,_=>by exact Aq c
theorem eoksC (G:GroundC cx N A Φ l K):∀ (ms:MEs) (xs:List Expr) (env:Env) (sc:Scope) (ns:List (Option Str)) (Γ:Env'),calmEs K ms=true -> ckEs N sc ns ms xs=true -> Da ns -> Γ.length=ns.length ->
    Sim cx A ((Amb.env cx env sc ns Γ).and (Amb.frames cx l)) (spliced (xs.map fun e=>(false,eval e env))) (evalEs cx.T Φ ms Γ) (Amb.vrs cx)
  | .nil,[],env,sc,ns,Γ,c,h,ha,hΓ=>Sy
  | .nil,_ :: _,env,sc,ns,Γ,c,h,ha,hΓ=>by cases (show false=true from h)
  | .cons _ _,[],env,sc,ns,Γ,c,h,ha,hΓ=>by cases (show false=true from h)
  | .cons m ms,x :: xs,env,sc,ns,Γ,c,h,ha,hΓ=>Pn (Vz G m x env sc ns Γ (an1 c) (an1 h) ha hΓ).val (eoksC G ms xs env sc ns Γ (an2 c) (an2 h) ha hΓ)
end
theorem Rb {m:MEo} {x:Option Expr} {pos:Pos} (hm:ckO N sc ns m x=true) (he:∀ e x',m=.some e -> x=some x' -> ck N sc ns e x'=true -> ∀ Γ:Env',Γ.length=ns.length -> EOk cx A ((Amb.env cx env sc ns Γ).and (Amb.frames cx l)) Φ env Γ e x'):Gz cx A l env sc ns (exec (.Return x pos) env) (Dg cx.T Φ (.ret m)):=by
  intro Γ H ρ s R e0 fr
  match m,x,hm,he with
  | .none,none,_,_=>exact wpAny_Return_none ⟨_,ρ,rfl,FullS.refl _ _ _,R,.none,e0.st⟩
  | .some e,some x,hm,he =>
    exact B3.to (Cn.bindK (K:=fun v Q _ s=>Q (.ret v) s) e0 ((he e x rfl rfl hm Γ e0.len).val H ρ s R ⟨e0,fr⟩) (fun b v H1 ρ1 s1 _ F1 R1 e1 vr=>⟨v,ρ1,rfl,FullS.refl _ _ _,R1,vr,e1.st⟩) (fun _ Q E Q' E' s h k1 _=>k1 _ _ h) fun Q E h=>wpAny_Return_some h)
  | .none,some _,h,_=>cases (show false=true from h)
  | .some _,none,h,_=>cases (show false=true from h)
theorem Rd {c:ME} {t f:MSs} {x:Expr} {ts fs:List Stmt} {pos:Pos} (hc:∀ Γ:Env',Γ.length=ns.length -> EOk cx A ((Amb.env cx env sc ns Γ).and (Amb.frames cx l)) Φ env Γ c x) (ht:Gz cx A l env sc ns (execs ts env) (execSs cx.T Φ t)) (hf:Gz cx A l env sc ns (execs fs env) (execSs cx.T Φ f)) :
    Gz cx A l env sc ns (exec (.If x ts fs pos) env) (Dg cx.T Φ (.ite c t f)):=by
  intro Γ H ρ s R e0 fr
  refine B3.to (Cn.bindK (K:=fun b Q E s=>if b=true then wpAny (model cx.prog cx.w) A (execs ts env) Q E s else wpAny (model cx.prog cx.w) A (execs fs env) Q E s) e0 ((hc Γ e0.len).tru H ρ s R ⟨e0,fr⟩) ?_ ?_ fun Q E h=>wpAny_If h)
  · intro b b' H1 ρ1 s1 _ F1 R1 e1 hb
    have hb':b'=b:=hb
    refine hb'▸?_
    cases b' with
    | true=>exact (B3.of (ht Γ H1 ρ1 s1 R1 e1 (fr.full F1))).mono fun Q E h=>h
    | false=>exact (B3.of (hf Γ H1 ρ1 s1 R1 e1 (fr.full F1))).mono fun Q E h=>by simpa using h
  · intro b Q E Q' E' s h k1 k2
    cases b
    · simp only [Bool.false_eq_true,if_false] at h ⊢;exact wpAny_mono h k1 k2
    · simp only [if_true] at h ⊢;exact wpAny_mono h k1 k2
mutual
theorem Amo (G:GroundC cx N A Φ l K) (ha:Da ns):∀ (m:MS) (st:Stmt),Adi K m=true -> ckS N sc ns m st=true -> Gz cx A l env sc ns (exec st env) (Dg cx.T Φ m)
  | .assign i e,st,c,h=>by
    obtain ⟨t,h⟩:=Ab h
    rw [t.2]
    refine D0 ha (an1 h) (J1 (an2 h) fun a b d w=>?_) fun Γ hΓ=>Vz G e _ env sc ns Γ c (an2 h) ha hΓ
    rw [w] at c;cases (show false=true from c)
  | .ret e,st,c,h=>by
    obtain ⟨t,h⟩:=Ab h
    rw [t.2]
    exact Rb h fun e' x' he _ hk Γ hΓ=>Vz G e' x' env sc ns Γ (by rw [he] at c;exact c) hk ha hΓ
  | .ite c t f,st,q,h=>by
    obtain ⟨p,h⟩:=Ab h
    rw [p.2]
    exact Rd (fun Γ hΓ=>Vz G c _ env sc ns Γ (an1 (an1 q)) (an1 (an1 h)) ha hΓ) (soksC G ha t p.1.2.1 (an2 (an1 q)) (an2 (an1 h))) (soksC G ha f p.1.2.2.1 (an2 q) (an2 h))
  | .expr _,_,c,_=>by exact Aq c
  | .setattr _ _ _,_,c,_=>by exact Aq c
  | .setitem _ _ _,_,c,_=>by exact Aq c
  | .loop _ _,_,c,_=>by exact Aq c
  | .each _ _ _,_,c,_=>by exact Aq c
  | .eachPair _ _ _ _,_,c,_=>by exact Aq c
  | .raise _ _,_,c,_=>by exact Aq c
  | .tryx _ _,_,c,_=>by exact Aq c
theorem soksC (G:GroundC cx N A Φ l K) (ha:Da ns):∀ (m:MSs) (sts:List Stmt),calmSs K m=true -> ckSs N sc ns m sts=true -> Gz cx A l env sc ns (execs sts env) (execSs cx.T Φ m)
  | .nil,[],_,_=>by
    intro Γ H ρ s R e0 fr
    exact wpAny_execs_nil ⟨rfl,ρ,FullS.refl _ _ _,R,e0⟩
  | .nil,_ :: _,_,h=>by cases (show false=true from h)
  | .cons _ _,[],_,h=>by cases (show false=true from h)
  | .cons m ms,st :: sts,c,h=>by
    intro Γ H ρ s R e0 fr
    exact Pr e0 fr (Amo G ha m st (an1 c) (an1 h) Γ H ρ s R e0 fr) (soksC G ha ms sts (an2 c) (an2 h))
end
theorem Tp (B:Base cx N) (defs:∀ (f:Nat) (a:Addr),cx.fns[f]?=some a -> ∃ g,cx.T.funs[f]?=some g) {k:Nat} {a:Addr} {args:List Val} {vals:List Value} (hc:Fr cx.T k=true) (hk:cx.fns[k]?=some a) (room:RoomQ A (d+1)) (hfr:A.frames=some l) :
    Sim cx A ((Amb.vrs cx args vals).and (Amb.frames cx l)) (call (.ref a) vals) (Af cx.T (d+1) k args) (Amb.vr cx):=by
  refine Na B hk room hfr fun f stmts env sc ns hf h1 h2 h3 h4=>?_
  have c:calmSs (fun _=>false) f.body=true:=by unfold Fr at hc;rw [hf] at hc;exact hc
  exact soksC (K:=fun _=>false) ⟨B,by have:=room.units;show A.units+3+100 < _;exact o44 this,fun f a args vals h=>(by exact nomatch h),defs⟩ h2 f.body stmts c h1
end
noncomputable def Oq (cx:Cx) (Φ:Funs) (d:Nat):Prop :=
  ∀ (k:Nat) (a:Addr) (args:List Val) (vals:List Value) (A:Around) (l:List Env),Fr cx.T k=true -> cx.fns[k]?=some a -> RoomQ A d -> A.frames=some l ->
    Sim cx A ((Amb.vrs cx args vals).and (Amb.frames cx l)) (call (.ref a) vals) (Φ k args) (Amb.vr cx)
theorem W5 {cx:Cx} {N:Names} (B:Base cx N) (defs:∀ (f:Nat) (a:Addr),cx.fns[f]?=some a -> ∃ g,cx.T.funs[f]?=some g):∀ d,Oq cx (Af cx.T d) d
  | 0=>fun k a args vals A l _ _ _ _ H ρ s R p=>trivial
  | d+1=>fun k a args vals A l hc hk room hfr=>Tp B defs hc hk room hfr
section
variable {M:Model} {A:Around} {E:Value -> Shared -> Prop} {h:Heap} {g:Array GenState} {d:Drawn} {t:Nat} {os:OsState}
variable {nm q:Str} {C N:Addr} {bs bm:List Value} {hdct:Bool} {sn:List Str} {sub:List Value} {ab:Bool} {col:Option Bool} {dd:Option Addr} {k0 k1 k2 k3 k5:Option Value} {newId:String}
variable {nm' q':Str} {C' N':Addr} {bs' bm':List Value} {hdct':Bool} {sn':List Str} {sub':List Value} {ab':Bool} {col':Option Bool} {dd':Option Addr} {k0' k1' k2' k3' k5':Option Value} {newId':String}
theorem Re {e:Addr} {oe:Obj} {Q:Bool -> Shared -> Prop} (hC:h.get? C=some (excClassObj nm q C N bs bm hdct sn sub ab col dd k0 k1 k2 k3 k5 newId)) (hD:h.get? C'=some (excClassObj nm' q' C' N' bs' bm' hdct' sn' sub' ab' col' dd' k0' k1' k2' k3' k5' newId')) (he:h.get? e=some oe) (hcls:oe.cls=.ref C) (hbase:bm'.contains (.type "BaseException")=true)
    (hq:Q ((Value.ref C :: bm).contains (.ref C')) ⟨h,g,d,t,os⟩):wpAny M A (excMatches (.ref e) (.ref C')) Q E ⟨h,g,d,t,os⟩:=by
  have hcB:(Value.ref C' :: bm').contains (.type "BaseException")=true:=by rw [List.contains_cons,hbase,Bool.or_true]
  have f:=tc_notTuple
  generalize hb:(Value.ref C :: bm).contains (.ref C')=b at hq
  unfold excMatches
  repeat (first | (with_reducible refine wpAny_loadPart_at he ?_;rw [hcls]) | with_reducible refine wpAny_loadPart_at hD ?_ | (with_reducible refine wpAny_isSubtype_exc hD ?_;rw [hcB]) | (with_reducible refine wpAny_isSubtype_exc hC ?_;rw [hb]) | wp_step)
  cases b <;> (wp_walk;exact hq)
end
section
variable {cx:Cx} {N:Names} {A:Around} {Φ:Funs} {l:List Env} {d:Nat} {env:Env} {sc:Scope} {ns:List (Option Str)} {Γ:Env'} {H:Hp} {ρ ρ₀:Rho} {s:Shared} {h:Heap} {c:Nat} {e:Value} {Q:Flow -> Shared -> Prop} {E:Value -> Shared -> Prop}
theorem Abb (lb:Fh cx.h₀ h) (fl:Flown cx ρ h s.heap c e) {what:String} (k:∀ h',Off cx ρ h s.heap h' -> Flown cx ρ h h' c e -> E e { s with heap:=h' }):wpAny (model cx.prog cx.w) A (passOn what e env:Sem Flow) Q E s:=by
  refine Ah fun G kG=>?_
  refine ex5 fl.is fun a C vs tb tvs zz=>V4 zz fun zr5 hC ha ga hz no h1 htb gtb hzt not=>?_;subst zr5
  refine kG ?_
  unfold passOn
  refine wpAny_bind (wpAny_field ga rfl h1 ?_)
  exact wpAny_bind (E4 lb ⟨a,C,vs,tb,tvs,rfl,hC,ha,ga,hz,no,h1,htb,gtb,hzt,not⟩ fun h' o' fl'=>wpAny_throw (k h' o' fl'))
theorem Pt {e:Value} {b:MSs} {ts:List Stmt} {K:Nat -> Bool} {v:Val} {H':Hp} {Γ':Env'} (G:GroundC cx N (A.mark (some e)) Φ (env :: l) K) (ha:Da ns) (hc:calmSs K b=true) (hk:ckSs N sc ns b ts=true) (hr:execSs cx.T Φ b Γ' H=.ret v H') (R:Rel cx H ρ s) (e0:EnvOk cx env sc ns Γ' ρ s.heap) (w:A0 cx (env :: l) ρ s.heap) (F:FullS env ρ₀ h ρ s.heap)
    (k:∀ v' ρ' s',FullS env ρ₀ h ρ' s'.heap -> Rel cx H' ρ' s' -> VR cx ρ' s'.heap v v' -> EnvSt cx env sc ρ' s'.heap -> Q (.ret v') s'):wpAny (model cx.prog cx.w) (A.mark (some e)) (execs ts env) Q (fun x s'=>False) s:=by
  have y:=soksC (env:=env) G ha b ts hc hk Γ' H ρ s R e0 w
  rw [hr] at y
  exact wpAny_mono y (fun f s' ⟨v',ρ',h1,F1,R1,vr⟩=>by refine Eq.symm h1▸?_;exact k v' ρ' s' (F.trans F1) R1 vr.1 vr.2) fun _ _ q=>q.elim
theorem Step.loc {h h':Heap} (x:EnvSt cx env sc ρ h) (sb:Heap.SameBut env.locals h h') (e':∃ o,h'.get? env.locals=some o):Step ρ h ρ h':=by
  have k:∀ b o,h.get? b=some o -> b≠env.locals -> h'.get? b=some o:=fun b o e n=>(sb.2 b n).trans e
  exact ⟨⟨[],by simp⟩,fun b o e f n=>⟨k b o e (x.notLoc e f.notDict),n⟩,fun b o C e f n=>⟨o,k b o e (x.notLoc e f.notDict),f,n⟩⟩
theorem Tq {n:Str} {pos:Pos} {Q:Unit -> Shared -> Prop} (hl:sc.names.lookup n=some .local) (R:Rel cx H ρ s) (st:EnvSt cx env sc ρ s.heap) (F:FullS env ρ₀ h ρ s.heap)
    (k:∀ h' tk,FullS env ρ₀ h ρ h' -> Rel cx H ρ { s with heap:=h',toks:=tk } -> Step ρ s.heap ρ h' -> EnvSt cx env sc ρ h' -> Q () { s with heap:=h',toks:=tk }):wpAny (model cx.prog cx.w) A (do bindName env n .none;unbindBehindTheSuite env n pos) Q E s:=by
  obtain ⟨m,hm⟩:=st.loc
  refine wpAny_nameGoes (m:=m) (st.kinds n _ hl) hm (by rw [st.fn];rfl) fun h' m' hn' sb=>?_
  refine Ah fun G kG=>?_
  refine ex3 (id hn') fun o' es' ep' zz=>Av zz fun e' d' _=>?_
  refine kG ?_
  have stp:=Step.loc st sb ⟨o',e'⟩
  have kk:∀ b o,s.heap.get? b=some o -> b≠env.locals -> h'.get? b=some o:=fun b o e n=>(sb.2 b n).trans e
  refine k h' _ ⟨F.grow,fun b o e n n1 n2=>?_,fun b o e=>?_⟩ (R.same stp (fun b o w e=>kk b o e fun q=>st.locN (q▸w)) fun b o e=>kk b o (R.base b o e) fun q=>by rw [q,st.locB] at e;exact nomatch e) stp ⟨st.fn,st.glob,st.blt,st.kinds,⟨m',hn'⟩,st.locN,st.locB,fun y c hc=>?_,st.hasCell,st.apart⟩
  · refine ex1 (F.keep b o e n n1 n2) fun o1 zz=>Ad zz fun e1 u1=>?_
    exact ⟨o1,kk b o1 e1 n1,u1⟩
  · obtain ⟨o1,e1⟩:=F.live b o e
    by_cases q:b=env.locals
    · exact ⟨o',q▸e'⟩
    · exact ⟨o1,kk b o1 e1 q⟩
  · refine Ah fun G kG=>?_
    refine Av (st.cells y c hc) fun zn0 n b=>?_;obtain ⟨v,o,eo,dv⟩:=zn0
    refine kG ?_
    exact ⟨⟨v,o,kk c o eo (st.notLoc eo fun es k q=>by rw [dv] at q;cases q),dv⟩,n,b⟩
theorem W6 (T:Tab) (Φ:Funs) (d:Nat) (i:Option Nat) (body:MSs) (hs:MHs) (c:Nat) (Γ:Env') (H:Hp):execH T Φ (.cons d i body hs) c Γ H=(if (T.isExc c && T.isExc d && calmSs (Fr T) body)=false then .bad else if T.sub c d=true then
      match execSs T Φ body (match i with | some i=>Γ.set i (some (.exc c)) | none=>Γ) H with
      | .ret v H'=>.ret v H'
      | _=>.bad
    else execH T Φ hs c Γ H):=rfl
theorem Abc {r:ResS} (h:(match r with | .ret v H'=>ResS.ret v H' | _=>.bad)≠.bad):∃ v H',r=.ret v H':=by
  cases r with
  | ret v H'=>exact ⟨v,H',rfl⟩
  | bad=>exact absurd rfl h
  | next _ _=>exact absurd rfl h
  | exc _ _ _=>exact absurd rfl h
theorem Rf (G:Ground cx N A Φ (env :: l) d) (FC:Oq cx Φ d) (ha:Da ns) (lb:Fh cx.h₀ h) {b:MSs} {i:Option Nat} {y:Option Str} {t:Stmt} {ts:List Stmt} {pos:Pos} {v:Val} {H':Hp} (hcalm:calmSs (Fr cx.T) b=true) (hck:ckSs N sc ns b (t :: ts)=true) (hr:execSs cx.T Φ b (match i with | some i=>Γ.set i (some (.exc c)) | none=>Γ) H=.ret v H') (hnm:Yx sc ns i y=true)
    (R:Rel cx H ρ s) (e0:EnvOk cx env sc ns Γ ρ s.heap) (w:A0 cx (env :: l) ρ s.heap) (F:FullS env ρ₀ h ρ s.heap) (fl:Flown cx ρ h s.heap c e) (p:W2 cx env sc ns ρ₀ h (.ret v H') Q E) :
    codeAny (model cx.prog cx.w) (A.mark (some e)) (.handlers e [.ExceptHandler none y (t :: ts) pos] env) (fun r s₂=>match r with
          | .ok f=>(match (generalizing:=false) y with
            | none=>Q f s₂
            | some n=>wpAny (model cx.prog cx.w) A (do bindName env n .none;unbindBehindTheSuite env n pos) (fun _ s₃=>Q f s₃) E s₂)
          | .error x=>cameBackBy (model cx.prog cx.w) A env E x s₂) s:=by
  have GC:GroundC cx N (A.mark (some e)) Φ (env :: l) (Fr cx.T):=⟨G.base,G.u,fun f a args vals hc hf=>FC f a args vals (A.mark (some e)) (env :: l) hc hf ⟨by have:=G.room.depth;show A.depth+_+_ < _;exact o2 this,by have:=G.room.units;show A.units+_+_ < _;exact o3 this⟩ G.frames,G.defs⟩
  cases i with
  | none =>
    cases y with
    | some _=>exact Aq hnm
    | none =>
      refine codeAny_handlers_suite (E4 lb fl fun h1 o1 fl1=>?_)
      exact wpAny_mono (Pt (s:={ s with heap:=h1 }) GC ha hcalm hck hr (o1.rel R) (o1.envK e0) (o1.frames w) (o1.fullS F) fun v' ρ' s' F' R' vr st=>p s' ρ' v' F' R' ⟨vr,st⟩) (fun _ _ q=>q) fun _ _ q=>q.elim
  | some i =>
    cases y with
    | none=>exact Aq hnm
    | some n =>
      have hown:Ft sc ns i n=true:=an1 hnm
      have hloc:sc.names.lookup n=some .local:=of_decide_eq_true (an2 hnm)
      refine codeAny_handlers_suite_as (E4 lb fl fun h1 o1 fl1=>?_)
      refine Ej (s:={ s with heap:=h1 }) (o1.envK e0).len ha (o1.rel R) (o1.envK e0) hown fl1.vr fun h2 tk2 F2 R2 e2 _=>?_
      refine wpAny_mono (Pt (s:={ s with heap:=h2,toks:=tk2 }) GC ha hcalm hck hr R2 e2 ((o1.frames w).stmt F2 (o1.envK e0).st e2.st) ((o1.fullS F).trans F2) fun v' ρ' s' F' R' vr st=>?_) (fun _ _ q=>q) fun _ _ q=>q.elim
      exact Tq hloc R' st F' fun h3 tk3 F3 R3 stp st3=>p { s' with heap:=h3,toks:=tk3 } ρ' v' F3 R3 ⟨vr.step stp,st3⟩
theorem Nd (G:Ground cx N A Φ (env :: l) d) (FC:Oq cx Φ d) (ha:Da ns) (lb:Fh cx.h₀ h):∀ (hs:MHs) (hx:List ExceptHandler),ckHs N sc ns hs hx=true -> Rel cx H ρ s -> EnvOk cx env sc ns Γ ρ s.heap -> A0 cx (env :: l) ρ s.heap -> FullS env ρ₀ h ρ s.heap -> Flown cx ρ h s.heap c e -> execH cx.T Φ hs c Γ H≠.bad -> W2 cx env sc ns ρ₀ h (execH cx.T Φ hs c Γ H) Q E -> wpAny (model cx.prog cx.w) A (handleBy e env hx) Q E s
  | .nil,[],_,R,e0,w,F,fl,_,p=>wpAny_handleBy_nil (Abb lb fl fun h' o' fl'=>p e { s with heap:=h' } ρ (o'.fullS F) (o'.rel R) (o'.envK e0) fl'.to)
  | .nil,_ :: _,hk,_,_,_,_,_,_,_=>by cases (show false=true from hk)
  | .cons _ _ _ _,[],hk,_,_,_,_,_,_,_=>by cases (show false=true from hk)
  | .cons dc i b hs,hd :: hx,hk,R,e0,w,F,fl,nb,p=>by
    obtain ⟨t,hc⟩:=Ab (an1 hk)
    rw [t.2]
    rw [W6] at nb p
    by_cases q1:(cx.T.isExc c && cx.T.isExc dc && calmSs (Fr cx.T) b)=false
    · rw [if_pos q1] at nb;exact absurd rfl nb
    rw [if_neg q1] at nb p
    have q2:(cx.T.isExc c && cx.T.isExc dc && calmSs (Fr cx.T) b)=true:=by cases q:(cx.T.isExc c && cx.T.isExc dc && calmSs (Fr cx.T) b) <;> first | rfl | exact absurd q q1
    refine ex2 G.base.ns fun mg mb zz=>Lp zz fun ng nbl _ _ qc _=>?_
    refine ex1 (qc _ dc (Cw (an2 (an1 (an1 hc))))) fun Dv zz=>Ad zz fun hDv hxv=>?_
    refine ex1 (G.base.exc c (an1 (an1 q2))) fun C zz=>Ad zz fun hC okC=>?_
    refine ex1 (G.base.exc dc (an2 (an1 q2))) fun D zz=>Ad zz fun hD okD=>?_
    rw [hD] at hDv;cases hDv
    refine V3 okC.is fun nm qn Nn bs bm hdct sn sub ab col dd k0 k1 k2 zz=>ex3 zz fun k3 k5 mN zz=>Fc zz fun hCo hNs hin tl hsub=>?_
    refine V3 okD.is fun nm' qn' Nn' bs' bm' hdct' sn' sub' ab' col' dd' k0' k1' k2' zz=>ex3 zz fun k3' k5' mN' zz=>Fc zz fun hDo hNs' hin' tl' hsub'=>?_
    refine ex5 (id fl.is) fun a C' vs tb tvs zz=>Mu zz fun he hC' hna ga hz no h7=>?_
    rw [hC] at hC';cases hC'
    refine wpAny_handleBy_cons (codeAny_handlers_test (wp_glob (A:=A.mark (some e)) R e0.st (an1 (an1 (an1 hc))) ng nbl hxv ?_)) (by rw [he];intro q;cases q)
    have m:=hsub dc (.ref D) hD
    have goal:∀ z,(Value.ref C :: bm).contains (.ref D)=z -> (if z=true then codeAny (model cx.prog cx.w) (A.mark (some e)) (.handlers e [.ExceptHandler none t.1.2.2.1 (t.1.2.2.2.1 :: t.1.2.2.2.2.1) t.1.2.2.2.2.2] env) (fun r s₂=>match r with
          | .ok f=>(match t.1.2.2.1 with
            | none=>Q f s₂
            | some n=>wpAny (model cx.prog cx.w) A (do bindName env n .none;unbindBehindTheSuite env n t.1.2.2.2.2.2) (fun _ s₃=>Q f s₃) E s₂)
          | .error x=>cameBackBy (model cx.prog cx.w) A env E x s₂) s else wpAny (model cx.prog cx.w) A (handleBy e env hx) Q E s):=by
      intro z hz'
      rw [hz'] at m
      rw [m] at nb p
      cases z with
      | true =>
        rw [if_pos rfl] at nb p ⊢
        refine ex2 (Abc nb) fun v H' hr=>?_
        rw [hr] at p
        exact Rf G FC ha lb (an2 q2) (an2 (an1 hc)) hr (an2 hc) R e0 w F fl p
      | false =>
        rw [if_neg (by decide)] at nb p ⊢
        exact Nd G FC ha lb hs hx (an2 hk) R e0 w F fl nb p
    have g:=goal _ rfl
    rw [he]
    rw [he] at g
    obtain ⟨hp,gg,dr,tk,os⟩:=s
    refine Re (R.base _ _ hCo) (R.base _ _ hDo) ga rfl (tl'.hasType (by decide)) ?_
    cases z:(Value.ref C :: bm).contains (.ref D) with
    | true=>rw [z,if_pos rfl] at g;exact g
    | false=>rw [z,if_neg (by decide)] at g;exact g
theorem Abd (G:Ground cx N A Φ (env :: l) d) (FC:Oq cx Φ d) (ha:Da ns) (hef:env.frame=some env.locals) {b:MSs} {hs:MHs} {ts:List Stmt} {h0:ExceptHandler} {hx:List ExceptHandler} {pos:Pos} (hb:Gz cx A (env :: l) env sc ns (execs ts env) (execSs cx.T Φ b)) (hk:ckHs N sc ns hs (h0 :: hx)=true) :
    Gz cx A (env :: l) env sc ns (exec (.Try ts (h0 :: hx) [] [] pos) env) (Dg cx.T Φ (.tryx b hs)):=by
  intro Γ H ρ s R e0 fr
  have B:=hb Γ H ρ s R e0 fr
  have ex:Dg cx.T Φ (.tryx b hs) Γ H=(match execSs cx.T Φ b Γ H with | .exc c Γ' H'=>execH cx.T Φ hs c Γ' H' | r=>r):=rfl
  rw [ex]
  cases hr:execSs cx.T Φ b Γ H with
  | bad=>trivial
  | next Γ' H' =>
    rw [hr] at B
    exact wpAny_Try_except (wpAny_mono B (fun f s' ⟨h1,q⟩=>by refine Eq.symm h1▸?_;exact wpAny_execs_nil ⟨rfl,q⟩) fun _ _ q=>q.elim)
  | ret v H' =>
    rw [hr] at B
    exact wpAny_Try_except (wpAny_mono B (fun f s' ⟨v',ρ',h1,q⟩=>by refine Eq.symm h1▸?_;exact ⟨v',ρ',rfl,q⟩) fun _ _ q=>q.elim)
  | exc c Γ' H' =>
    rw [hr] at B
    refine B3.to (B3.ofPost (T:=fun Q E s=>wpAny (model cx.prog cx.w) A (exec (.Try ts (h0 :: hx) [] [] pos) env) Q E s) fun Q E nb p=>?_)
    refine wpAny_Try_except (wpAny_mono B (fun _ _ q=>q.elim) fun e s' ⟨ρ',F,R',e',fl⟩=>?_)
    have w':=fr.stmt F e0.st e'.st
    have lb:Fh cx.h₀ s.heap:=fun b o e=>⟨o,R.base b o e⟩
    refine Og G.frames hef w' R' lb F.live fl fun h1 o1 fl1=>E4 (s:={ s' with heap:=h1 }) lb fl1 fun h2 o2 fl2=>?_
    have o:=o1.trans o2
    exact Nd (s:={ s' with heap:=h2 }) G FC ha lb hs (h0 :: hx) hk (o.rel R') (o.envK e') (o.frames w') (o.fullS F) fl2 nb p
end
section
variable {cx:Cx} {N:Names} {A:Around} {Φ:Funs} {l:List Env} {d:Nat} {env:Env} {sc:Scope} {ns:List (Option Str)} {Γ:Env'} {H:Hp} {ρ ρ':Rho} {s:Shared}
theorem W7 (G:Ground cx N A Φ l d) {m:ME} {x:Expr} {pos:Pos} (ha:Da ns) (hm:ck N sc ns m x=true) (hc:Sg m=true):Gz cx A l env sc ns (exec (.Expr x pos) env) (Dg cx.T Φ (.expr m)):=by
  intro Γ H ρ s R e0 fr
  have nc:∀ a b c,m≠.comp a b c:=fun a b c q=>by subst q;exact Aq hc
  refine B3.to (Cn.bindK (K:=fun _ Q _ s=>Q .next s) e0 ((eok G m x env sc ns Γ hm ha e0.len).val H ρ s R ⟨e0,fr⟩) (fun b v H1 ρ1 s1 _ F1 R1 e1 vr=>⟨rfl,ρ1,FullS.refl _ _ _,R1,e1⟩) (fun _ Q E Q' E' s h k1 _=>k1 _ _ h) fun Q E h=>?_)
  refine wpAny_Expr_any h ?_ (J1 hm nc)
  unfold interactive
  rw [e0.st.fn];rfl
theorem Abe (G:Ground cx N A Φ l d) {m:MEo} {x:Option Expr} {pos:Pos} (ha:Da ns) (hm:ckO N sc ns m x=true):Gz cx A l env sc ns (exec (.Return x pos) env) (Dg cx.T Φ (.ret m)):=by
  intro Γ H ρ s R e0 fr
  match m,x,hm with
  | .none,none,_ =>
    exact wpAny_Return_none ⟨_,ρ,rfl,FullS.refl _ _ _,R,.none,e0.st⟩
  | .some e,some x,hm =>
    exact B3.to (Cn.bindK (K:=fun v Q _ s=>Q (.ret v) s) e0 ((eok G e x env sc ns Γ hm ha e0.len).val H ρ s R ⟨e0,fr⟩) (fun b v H1 ρ1 s1 _ F1 R1 e1 vr=>⟨v,ρ1,rfl,FullS.refl _ _ _,R1,vr,e1.st⟩) (fun _ Q E Q' E' s h k1 _=>k1 _ _ h) fun Q E h=>wpAny_Return_some h)
  | .none,some _,h=>cases (show false=true from h)
  | .some _,none,h=>cases (show false=true from h)
theorem Abf (G:Ground cx N A Φ l d) {c:ME} {t f:MSs} {x:Expr} {ts fs:List Stmt} {pos:Pos} (ha:Da ns) (hm:ck N sc ns c x=true) (ht:Gz cx A l env sc ns (execs ts env) (execSs cx.T Φ t)) (hf:Gz cx A l env sc ns (execs fs env) (execSs cx.T Φ f)) :
    Gz cx A l env sc ns (exec (.If x ts fs pos) env) (Dg cx.T Φ (.ite c t f)):=by
  intro Γ H ρ s R e0 fr
  refine B3.to (Cn.bindK (K:=fun b Q E s=>if b=true then wpAny (model cx.prog cx.w) A (execs ts env) Q E s else wpAny (model cx.prog cx.w) A (execs fs env) Q E s) e0 ((eok G c x env sc ns Γ hm ha e0.len).tru H ρ s R ⟨e0,fr⟩) ?_ ?_ fun Q E h=>wpAny_If h)
  · intro b b' H1 ρ1 s1 _ F1 R1 e1 hb
    have hb':b'=b:=hb
    refine hb'▸?_
    cases b' with
    | true=>exact (B3.of (ht Γ H1 ρ1 s1 R1 e1 (fr.full F1))).mono fun Q E h=>h
    | false=>exact (B3.of (hf Γ H1 ρ1 s1 R1 e1 (fr.full F1))).mono fun Q E h=>by simpa using h
  · intro b Q E Q' E' s h k1 k2
    cases b
    · simp only [Bool.false_eq_true,if_false] at h ⊢;exact wpAny_mono h k1 k2
    · simp only [if_true] at h ⊢;exact wpAny_mono h k1 k2
set_option maxHeartbeats 4000000 in
mutual
theorem sok (G:Ground cx N A Φ (env :: l) d) (FC:Oq cx Φ d) (ha:Da ns) (hef:env.frame=some env.locals):∀ (m:MS) (st:Stmt),ckS N sc ns m st=true -> Gz cx A (env :: l) env sc ns (exec st env) (Dg cx.T Φ m)
  | .expr e,st,h=>by
    obtain ⟨t,h⟩:=Ab h
    rw [t.2]
    exact W7 G ha (an1 h) (an2 h)
  | .assign i e,st,h=>by
    obtain ⟨t,h⟩:=Ab h
    rw [t.2]
    exact Q4 G ha (an1 h) (an2 h)
  | .setattr o n e,st,h=>by
    obtain ⟨t,h⟩:=Ab h
    rw [t.2]
    exact Oo G ha (an1 (an1 h)) (an2 (an1 h)) (an2 h)
  | .setitem o i e,st,h=>by
    obtain ⟨t,h⟩:=Ab h
    rw [t.2]
    exact Op G ha (an1 (an1 h)) (an2 (an1 h)) (an2 h)
  | .ret e,st,h=>by
    obtain ⟨t,h⟩:=Ab h
    rw [t.2]
    exact Abe G ha h
  | .ite c t f,st,h=>by
    obtain ⟨p,h⟩:=Ab h
    rw [p.2]
    exact Abf G ha (an1 (an1 h)) (soks G FC ha hef t p.1.2.1 (an2 (an1 h))) (soks G FC ha hef f p.1.2.2.1 (an2 h))
  | .loop c b,st,h=>by
    obtain ⟨t,h⟩:=Ab h
    rw [t.2]
    exact Tn G ha (an1 h) (soks G FC ha hef b t.1.2.1 (an2 h))
  | .each i it b,st,h=>by
    obtain ⟨t,h⟩:=Ab h
    rw [t.2]
    exact W3 G.room.hh G.frames ha (an1 (an1 (an1 h))) (an2 (an1 h)) (fun Γ hΓ=>eok G it t.1.2.2.1 env sc ns Γ (an2 (an1 (an1 h))) ha hΓ) (soks G FC ha hef b t.1.2.2.2.1 (an2 h))
  | .eachPair i j it b,st,h=>by
    obtain ⟨t,h⟩:=Ab h
    rw [t.2]
    exact Nc G.room.hh G.frames ha (an1 (an1 (an1 (an1 h)))) (an2 (an1 (an1 (an1 h)))) (an2 (an1 h)) (fun Γ hΓ=>eok G it t.1.2.1 env sc ns Γ (an2 (an1 (an1 h))) ha hΓ) (soks G FC ha hef b t.1.2.2.1 (an2 h))
  | .raise c msg,st,h=>by
    obtain ⟨t,h⟩:=Ab h
    rw [t.2]
    have e:=of_decide_eq_true (an2 (an1 h))
    have hk:=an2 h
    rw [e] at hk ⊢
    exact To G ha (an1 (an1 (an1 h))) (an2 (an1 (an1 h))) hk
  | .tryx b hs,st,h=>by
    obtain ⟨t,h⟩:=Ab h
    rw [t.2]
    exact Abd G FC ha hef (soks G FC ha hef b t.1.1 (an1 h)) (an2 h)
theorem soks (G:Ground cx N A Φ (env :: l) d) (FC:Oq cx Φ d) (ha:Da ns) (hef:env.frame=some env.locals):∀ (m:MSs) (sts:List Stmt),ckSs N sc ns m sts=true -> Gz cx A (env :: l) env sc ns (execs sts env) (execSs cx.T Φ m)
  | .nil,[],_=>by
    intro Γ H ρ s R e0 fr
    exact wpAny_execs_nil ⟨rfl,ρ,FullS.refl _ _ _,R,e0⟩
  | .nil,_ :: _,h=>by cases (show false=true from h)
  | .cons _ _,[],h=>by cases (show false=true from h)
  | .cons m ms,st :: sts,h=>by
    have h:=And.intro (an1 h) (an2 h)
    intro Γ H ρ s R e0 fr
    exact Pr e0 fr (sok G FC ha hef m st h.1 Γ H ρ s R e0 fr) (soks G FC ha hef ms sts h.2)
end
theorem Abg {d:Nat} (B:Base cx N) (defs:∀ (f:Nat) (a:Addr),cx.fns[f]?=some a -> ∃ g,cx.T.funs[f]?=some g) {Φ:Funs} (hΦ:Hm cx Φ d) (FC:Oq cx Φ d):Y5 cx N Φ d :=
  fun body stmts env sc ns A l hck ha room hfr hef=>soks (Φ:=Φ) ⟨B,room,hfr,hΦ,defs⟩ FC ha hef body stmts hck
theorem Tr (B:Base cx N) (defs:∀ (f:Nat) (a:Addr),cx.fns[f]?=some a -> ∃ g,cx.T.funs[f]?=some g):∀ d,Hm cx (Af cx.T d) d
  | 0=>fun k a args vals A l _ _ _ H ρ s R p=>trivial
  | d+1=>Hm.step B (Abg B defs (Tr B defs d) (W5 B defs d))
end
end Mine.Internal
namespace Mine.Internal
open PySem PySem.W.X
noncomputable def F7 (a b:Value):Bool:=decide (a=b)
theorem Dn {a b:Value} (h:F7 a b=true):a=b:=of_decide_eq_true h
noncomputable def Aeg:Value -> Option Int
  | .int b _=>some b
  | _=>none
theorem W8 {w:Value} {a:Int} (h:Aeg w=some a):∃ t,w=.int a t:=by
  cases w with
  | int b t=>cases h;exact ⟨t,rfl⟩
  | _=>exact Ae h
noncomputable def Abh:Value -> Option Str
  | .str b _=>some b
  | _=>none
theorem W9 {w:Value} {a:Str} (h:Abh w=some a):∃ t,w=.str a t:=by
  cases w with
  | str b t=>cases h;exact ⟨t,rfl⟩
  | _=>exact Ae h
noncomputable def Aeh (v:Val) (w:Value):Bool:=match v with
  | .int a=>decide (Aeg w=some a)
  | .str a=>decide (Abh w=some a) && decide (a.length <= 1000)
  | _=>false
theorem Xa {cx:Cx} {ρ:Rho} {h:Heap} {v:Val} {w:Value} (x:Aeh v w=true):VR cx ρ h v w:=by
  cases v with
  | int a =>
    obtain ⟨t,hr0⟩:=W8 (of_decide_eq_true x);refine Eq.symm hr0▸?_
    exact .int _ _
  | str a =>
    have x:(decide (Abh w=some a) && decide (a.length <= 1000))=true:=x
    obtain ⟨t,hr1⟩:=W9 (of_decide_eq_true (an1 x));refine Eq.symm hr1▸?_
    exact .str _ _ (Nat.le_trans (of_decide_eq_true (an2 x)) (by skip;decide))
  | _=>exact Aq x
theorem Bu {α:Type} {o:Option α} {f:α -> Bool} (h:seen o f=true):∃ a,o=some a /\ f a=true:=by
  cases o with
  | none=>exact Aq h
  | some a=>exact ⟨a,rfl,h⟩
noncomputable def Afn (v:Value):Option { a:Addr // v=.ref a }:=match v with
  | .ref a=>some ⟨a,rfl⟩
  | _=>none
noncomputable def dVS (v:Value):Option { p:Str × Tok // v=.str p.1 p.2 }:=match v with
  | .str a b=>some ⟨(a,b),rfl⟩
  | _=>none
noncomputable def Amp (d:Data):Option { p:Array Value // d=.fields p }:=match d with
  | .fields p=>some ⟨p,rfl⟩
  | _=>none
noncomputable def Ah2 (d:Data):Option { p:FuncData // d=.func p }:=match d with
  | .func p=>some ⟨p,rfl⟩
  | _=>none
noncomputable def Agh (d:Data):Option { p:ClassData // d=.cls p }:=match d with
  | .cls p=>some ⟨p,rfl⟩
  | _=>none
noncomputable def Agi (d:Data):Option { p:Array DictEntry × Nat // d=.dict p.1 p.2 }:=match d with
  | .dict p q=>some ⟨(p,q),rfl⟩
  | _=>none
noncomputable def Amq (d:FuncBody):Option { p:List Stmt // d=.stmts p }:=match d with
  | .stmts p=>some ⟨p,rfl⟩
  | _=>none
noncomputable def Y8 (t:Addr -> Option Obj) (c:Value) (q:Str):Bool :=
  seen (Afn c) fun a=>seen (t a.1) fun o=>seen (Amp o.data) fun vs=>seen (vs.1[1]?:Option Value) fun x=>seen (dVS x) fun y=>decide (y.1.1=q)
noncomputable def Agj (N:Names) (t:Addr -> Option Obj) (a:Nat) (f:MFun) (ns:List Str):Bool :=
  seen (t a) fun o=>seen (Ah2 o.data) fun p=>seen (Amq p.1.body) fun body=>ckF N f ns p.1.params body.1 p.1.scope && (p.1.closure.isEmpty && (Nat.beq p.1.globals mainGlobals && (Nat.beq p.1.builtins builtinsNs && (F7 p.1.defaults .none && (F7 p.1.kwdefaults .none && (Y8 t p.1.code p.1.qualname && F7 o.cls (.type "function")))))))
noncomputable def Abi (N:Names) (t:Addr -> Option Obj):List Addr -> List MFun -> List (List Str) -> Bool
  | [],[],[]=>true
  | a :: as,f :: fs,ns :: nss=>Agj N t a f ns && Abi N t as fs nss
  | _,_,_=>false
noncomputable def Agk (es:Array DictEntry) (N:Names) (T:Tab) (cls:List Value) (fns:List Addr):Bool :=
  (N.funs.all fun p=>seen fns[p.2]? fun a=>seen (nsFind es p.1) fun v=>F7 (.ref a) v) &&
  ((N.globs.all fun p=>seen T.globs[p.2]? fun m=>seen (nsFind es p.1) fun v=>Aeh m v) &&
  ((N.clss.all fun p=>seen cls[p.2]? fun c=>(seen (nsFind es p.1) fun v=>F7 c v) || ((nsFind es p.1).isNone && seen (bootBuiltins p.1) fun v=>F7 c v && !decide (p.1=("__name__":Str)))) &&
  (Iz.all fun p=>(nsFind es p.1).isNone && (!decide (p.1=("__name__":Str)) && seen (bootBuiltins p.1) fun v=>F7 p.2 v))))
noncomputable def Agl (t:Addr -> Option Obj) (a:Nat):Bool:=seen (t a) fun o=>F7 o.cls (.type "function") && (Ah2 o.data).isSome
noncomputable def Pu (v:Value):Bool:=(dVS v).isSome
theorem Ts {v:Value} (h:Pu v=true):∃ a b,v=.str a b:=by
  obtain ⟨x,_⟩:=Option.isSome_iff_exists.mp h
  exact ⟨_,_,x.2⟩
noncomputable def Abj (o:Option Value):Bool:=seen o fun v=>F7 v (.builtin "object.__new__")
noncomputable def Aei (y:Str):Bool:=seen (fastLookup "object" y) fun r=>r.isNone
noncomputable def Tt (y:Str):Bool:=(fastLookup "object" y).isSome
noncomputable def Agm (t:Addr -> Option Obj) (N:Names) (T:Tab) (attrs:List Str) (fns:List Addr) (c:Nat) (es:Array DictEntry):Bool :=
  (es.toList.all fun e=>Pu e.key) && ((nsFind es "__getattribute__").isNone && ((nsFind es "__getattr__").isNone && ((nsFind es "__setattr__").isNone &&
  ((attrs.all fun y=>(nsFind es y).isNone && Aei y) &&
  (N.meths.all fun p=>(T.meth c p.2).isNone || seen (T.meth c p.2) fun k=>seen fns[k]? fun fa=>seen (nsFind es p.1) fun v=>F7 (.ref fa) v && (Agl t fa && (!(attrs.contains p.1) && Tt p.1)))))))
noncomputable def Tu (l:List (Option Value)):Option { p:Option Value × Option Value × Option Value × Option Value × Option Value × Option Value // l=[p.1,p.2.1,p.2.2.1,p.2.2.2.1,p.2.2.2.2.1,p.2.2.2.2.2] }:=match l with
  | [a,b,c,d,e,f]=>some ⟨(a,b,c,d,e,f),rfl⟩
  | _=>none
noncomputable def Abk (t:Addr -> Option Obj) (N:Names) (T:Tab) (attrs:List Str) (fns:List Addr) (c:Nat) (v:Value):Bool :=
  seen (Afn v) fun C=>seen (t C.1) fun o=>seen (Agh o.data) fun p=>F7 o.cls (.type "type") && (decide (p.1.mro=[.ref C.1,.type "object"]) && (p.1.hasDict && (!p.1.abstract && (!p.1.hasDel && ((seen (Tu o.slots.toList) fun q=>Abj q.1.2.2.2.2.1) && seen (t p.1.ns) fun on=>seen (Agi on.data) fun es=>Agm t N T attrs fns c es.1.1)))))
noncomputable def Ld (t:Addr -> Option Obj) (N:Names) (T:Tab) (attrs:List Str) (fns:List Addr):Nat -> List Value -> Bool
  | _,[]=>true
  | c,v :: vs=>((T.meth c 0).isNone || Abk t N T attrs fns c v) && Ld t N T attrs fns (c+1) vs
noncomputable def Mc (N:Names) (attrs:List Str):Bool :=
  (N.attrs.all fun p=>seen attrs[p.2]? fun y=>decide (y=p.1)) && (I0 (attrs.map some) && (decide (attrs.length <= 1000) && D8 N.meths "__init__" 0))
noncomputable def Tv (t:Addr -> Option Obj) (N:Names) (T:Tab) (cls:List Value) (fns:List Addr) (nss:List (List Str)):Bool :=
  (seen (t mainGlobals) fun o=>seen (Agi o.data) fun es=>Agk es.1.1 N T cls fns) && Abi N t fns T.funs nss
noncomputable def Has (h:Heap) (t:Addr -> Option Obj):Prop:=∀ a o,t a=some o -> h.get? a=some o
theorem F8 {h:Heap} {t:Addr -> Option Obj} (Z:Has h t) {a:Nat} {o:Obj} (e:t a=some o):h.get? a=some o:=Z a o e
set_option tactic.hygienic true in
theorem Rg {h:Heap} {t:Addr -> Option Obj} (Z:Has h t) {c:Value} {q:Str} (x:Y8 t c q=true):h.CodeRec c q:=by
  obtain ⟨a,x⟩:=Ab x
  refine ex1 (Bu x) fun o zz=>Ad zz fun e x=>?_
  obtain ⟨vs,x⟩:=Ab x
  refine ex1 (Bu x) fun v zz=>Ad zz fun hv x=>?_
  obtain ⟨y,x⟩:=Ab x
  exact of_decide_eq_true x▸⟨_,o,vs.1,y.1.2,a.2,F8 Z e,vs.2,hv.trans (congrArg some y.2)⟩
theorem Abl {cx:Cx} {N:Names} {t:Addr -> Option Obj} (Z:Has cx.h₀ t) {a:Nat} {f:MFun} {ns:List Str} (x:Agj N t a f ns=true):FnOk cx N a f:=by
  refine ex1 (Bu x) fun o zz=>Ad zz fun e x=>?_
  obtain ⟨p,x⟩:=Ab x
  obtain ⟨b,x⟩:=Ab x
  have x2:=an2 x
  have x3:=an2 x2
  have x4:=an2 x3
  have x5:=an2 x4
  have x6:=an2 x5
  have x7:=an2 x6
  exact ⟨o,p.1,b.1,ns,F8 Z e,Dn (an2 x7),p.2,Rg Z (an1 x7),b.2,List.isEmpty_iff.mp (an1 x2),Nat.eq_of_beq_eq_true (an1 x3),Nat.eq_of_beq_eq_true (an1 x4),Dn (an1 x5),Dn (an1 x6),an1 x⟩
theorem Nf {N:Names} {t:Addr -> Option Obj}:∀ {fns:List Addr} {fs:List MFun} {nss:List (List Str)},Abi N t fns fs nss=true -> fns.length=fs.length /\ ∀ (k:Nat) (a:Addr) (f:MFun),fns[k]?=some a -> fs[k]?=some f -> ∃ ns,Agj N t a f ns=true
  | [],[],[],_=>⟨rfl,fun k a f h _=>by simp at h⟩
  | a :: as,f :: fs,ns :: nss,h=>by
    have h:=And.intro (an1 h) (an2 h)
    obtain ⟨l,r⟩:=Nf h.2
    refine ⟨by simp [l],fun k b g h1 h2=>?_⟩
    cases k with
    | zero=>simp at h1 h2;subst h1 h2;exact ⟨ns,h.1⟩
    | succ k=>exact r k b g (by simpa using h1) (by simpa using h2)
  | [],[],_ :: _,h=>by cases (show false=true from h)
  | [],_ :: _,_,h=>by cases (show false=true from h)
  | _ :: _,[],_,h=>by cases (show false=true from h)
  | _ :: _,_ :: _,[],h=>by cases (show false=true from h)
theorem Xb {y:Str} (h:Aei y=true):typeLookup (.type "object") y=pure none:=by
  refine ex1 (Bu h) fun r zz=>Ad zz fun e h=>?_
  rw [typeLookup_type,builtinLookup_eq_fast,e,Option.isNone_iff_eq_none.mp h]
theorem Tw {y:Str} (h:Tt y=true):∃ r,typeLookup (.type "object") y=pure r:=by
  obtain ⟨r,e⟩:=Option.isSome_iff_exists.mp h
  exact ⟨r,by rw [typeLookup_type,builtinLookup_eq_fast,e]⟩
theorem Abm {h:Heap} {t:Addr -> Option Obj} (Z:Has h t) {a:Nat} (x:Agl t a=true):∃ o fd,h.get? a=some o /\ o.cls=.type "function" /\ o.data=.func fd:=by
  refine ex1 (Bu x) fun o zz=>Ad zz fun e x=>?_
  obtain ⟨p,_⟩:=Option.isSome_iff_exists.mp (an2 x)
  exact ⟨o,p.1,F8 Z e,Dn (an1 x),p.2⟩
theorem Y9 {o:Obj} {cd:ClassData} {C:Addr} {bm:List Value} {k0 k1 k2 k3 k5:Option Value} {nw:String} (x1:o.cls=.type "type") (hd:o.data=.cls cd) (x2:cd.mro=.ref C :: bm) (x5:cd.hasDel=false) (hp:o.slots.toList=[k0,k1,k2,k3,some (.builtin nw),k5]) :
    o=excClassObj cd.name cd.qualname C cd.ns cd.bases bm cd.hasDict cd.slotNames cd.subclasses cd.abstract cd.collection o.dict k0 k1 k2 k3 k5 nw:=by
  obtain ⟨oc,od,odata,oslots⟩:=o
  obtain ⟨cn,cb,cm,cns,cq,chd,csn,csub,cab,ccol,cdel⟩:=cd
  cases x1;cases hd;cases x2;cases x5
  exact congrArg _ (Array.toList_inj.mp hp)
theorem Tx {l:List (Option Value)} {g:Option Value -> Bool} {v:Value} (hg:∀ o,g o=true -> o=some v) (x:(seen (Tu l) fun q=>g q.1.2.2.2.2.1)=true):∃ k0 k1 k2 k3 k5,l=[k0,k1,k2,k3,some v,k5]:=by
  obtain ⟨q,x⟩:=Ab x
  exact ⟨q.1.1,q.1.2.1,q.1.2.2.1,q.1.2.2.2.1,q.1.2.2.2.2.2,hg _ x▸q.2⟩
theorem Tz {o:Option Value} {v:Value} (x:(seen o fun w=>F7 w v)=true):o=some v:=by
  refine ex1 (Bu x) fun w zz=>Ad zz fun e x=>?_
  exact e.trans (congrArg some (Dn x))
theorem T0 {es:Array DictEntry} (x:(es.toList.all fun e=>Pu e.key)=true):∀ e∈es,∃ a b,e.key=.str a b:=fun e he=>Ts (List.all_eq_true.mp x e (Array.mem_toList_iff.mpr he))
theorem Xc {cx:Cx} {N:Names} {t:Addr -> Option Obj} (Z:Has cx.h₀ t) {c:Nat} {es:Array DictEntry} {z:Str} {m k:Nat} (x:(N.meths.all fun p=>(cx.T.meth c p.2).isNone || seen (cx.T.meth c p.2) fun k=>seen cx.fns[k]? fun fa=>seen (nsFind es p.1) fun v=>F7 (.ref fa) v && (Agl t fa && (!(cx.attrs.contains p.1) && Tt p.1)))=true) (hz:N.meths.lookup z=some m) (hk:cx.T.meth c m=some k) :
    ∃ fa fo fd,cx.fns[k]?=some fa /\ nsFind es z=some (.ref fa) /\ cx.h₀.get? fa=some fo /\ fo.cls=.type "function" /\ fo.data=.func fd /\ (∀ n:Nat,cx.attrs[n]?≠some z) /\ ∃ r,typeLookup (.type "object") z=pure r:=by
  have x:=List.all_eq_true.mp x (z,m) (mem_of_lookup hz)
  rcases (Bool.or_eq_true _ _).mp x with q | q
  · cases hk.symm.trans (Option.isNone_iff_eq_none.mp q)
  · refine ex1 (Bu q) fun k' zz=>Ad zz fun e q1=>?_
    cases hk.symm.trans e
    refine ex1 (Bu q1) fun fa zz=>Ad zz fun hf q2=>?_
    refine ex1 (Bu q2) fun v zz=>Ad zz fun hv q=>?_
    refine ex2 (Abm Z (an1 (an2 q))) fun fo fd zz=>Av zz fun f1 f2 f3=>?_
    exact ⟨fa,fo,fd,hf,hv.trans (congrArg some (Dn (an1 q)).symm),f1,f2,f3,fun n hn=>of_decide_eq_false ((List.contains_eq_mem z cx.attrs).symm.trans (not_not (an1 (an2 (an2 q))))) (List.mem_of_getElem? hn),Tw (an2 (an2 (an2 q)))⟩
theorem Xd {cx:Cx} {N:Names} {t:Addr -> Option Obj} (Z:Has cx.h₀ t) {c:Nat} {v:Value} (x:Abk t N cx.T cx.attrs cx.fns c v=true):∃ C,v=.ref C /\ ClsOk cx N c C:=by
  obtain ⟨C,x⟩:=Ab x
  refine ex1 (Bu x) fun o zz=>Ad zz fun e x=>?_
  obtain ⟨p,x⟩:=Ab x
  have x2:=an2 x
  have x3:=an2 x2
  have x4:=an2 x3
  have x5:=an2 x4
  have x6:=an2 x5
  refine ex1 (Bu (an2 x6)) fun on zz=>Ad zz fun en x7=>?_
  obtain ⟨es,x7⟩:=Ab x7
  refine ex5 (Tx (fun _=>Tz) (an1 x6)) fun k0 k1 k2 k3 k5 hp=>?_
  have ho:=Y9 (Dn (an1 x)) p.2 (of_decide_eq_true (an1 x2)) (not_not (an1 x5)) hp
  rw [an1 x3,not_not (an1 x4)] at ho
  have y2:=an2 x7
  have y3:=an2 y2
  have y4:=an2 y3
  have y5:=an2 y4
  exact ⟨C.1,C.2,p.1.name,p.1.qualname,p.1.ns,p.1.bases,p.1.slotNames,p.1.subclasses,p.1.collection,o.dict,k0,k1,k2,k3,k5,fun z=>nsFind es.1.1 z,ho▸F8 Z e,⟨on,es.1.1,es.1.2,F8 Z en,es.2,T0 (an1 x7),fun _=>rfl⟩,Option.isNone_iff_eq_none.mp (an1 y2),Option.isNone_iff_eq_none.mp (an1 y3),Option.isNone_iff_eq_none.mp (an1 y4),
    fun n z hz=>have w:=List.all_eq_true.mp (an1 y5) z (List.mem_of_getElem? hz);⟨Option.isNone_iff_eq_none.mp (an1 w),Xb (an2 w)⟩,fun z m k hz hk=>Xc Z (an2 y5) hz hk⟩
theorem Lf {N:Names} {T:Tab} {t:Addr -> Option Obj} {attrs:List Str} {fns:List Addr}:∀ {l:List Value} {c i:Nat} {v:Value},Ld t N T attrs fns c l=true -> l[i]?=some v -> (T.meth (c+i) 0).isSome=true -> Abk t N T attrs fns (c+i) v=true
  | [],_,i,_,_,h,_=>by simp at h
  | w :: ws,c,i,v,x,h,hm=>by
    have x:=And.intro (Bool.or_eq_true _ _ |>.mp (an1 x)) (an2 x)
    cases i with
    | zero =>
      simp at h;subst h
      rcases x.1 with q | q
      · rw [Nat.add_zero,Option.isSome_iff_ne_none] at hm
        exact absurd (Option.isNone_iff_eq_none.mp q) hm
      · exact q
    | succ i =>
      have e:c+(i+1)=c+1+i:=by exact o45
      rw [e] at hm ⊢
      exact Lf x.2 (by simpa using h) hm
theorem Rh {cx:Cx} {N:Names} {t:Addr -> Option Obj} (Z:Has cx.h₀ t) (h1:Ld t N cx.T cx.attrs cx.fns 0 cx.cls=true) (h2:Mc N cx.attrs=true):ClsBase cx N:=by
  have a3:=of_decide_eq_true (an1 (an2 (an2 h2)))
  have get:∀ (c:Nat) (v:Value),cx.cls[c]?=some v -> (cx.T.meth c 0).isSome=true -> ∃ C,v=.ref C /\ ClsOk cx N c C:=fun c v hc hm=>by
    have:=Lf h1 hc (by rw [Nat.zero_add];exact hm)
    rw [Nat.zero_add] at this
    exact Xd Z this
  refine ⟨fun y n h=>?_,fun i j y hi hj=>?_,by rw [sizeLine_eq];exact o18 a3,Cw (an2 (an2 (an2 h2))),fun c v hc hm=>?_,fun c C hc hm=>?_⟩
  · refine ex1 (Bu (List.all_eq_true.mp (an1 h2) (y,n) (mem_of_lookup h))) fun z zz=>Ad zz fun hz q=>?_
    exact hz.trans (congrArg some (of_decide_eq_true q))
  · exact Gj (an1 (an2 h2)) i j y (by rw [List.getElem?_map,hi];rfl) (by rw [List.getElem?_map,hj];rfl)
  · refine ex1 (get c v hc hm) fun C zz=>Ad zz fun e _=>?_
    exact ⟨C,e⟩
  · refine ex1 (get c (.ref C) hc hm) fun C' zz=>Ad zz fun e k=>?_
    cases e;exact k
noncomputable def J3 (t:Addr -> Option Obj):List Addr -> PySem.W.Frag
  | []=>[]
  | a :: as=>match t a with
    | some o=>(a,o) :: J3 t as
    | none=>J3 t as
set_option tactic.hygienic true in
theorem Os {h:Heap} {t:Addr -> Option Obj} (Z:Has h t):∀ as,(J3 t as).In h
  | []=>fun a o e=>by exact Ae e
  | a :: as=>fun b o e=>by
    have e:(match t a with | some o=>(a,o) :: J3 t as | none=>J3 t as).lookup b=some o:=e
    split at e
    · rename_i o' ho
      simp only [List.lookup] at e
      split at e
      · rename_i q;cases e;rw [beq_iff_eq.mp q];exact F8 Z ho
      · exact Os Z as b o e
    · exact Os Z as b o e
noncomputable def T3 (t:Addr -> Option Obj) (v:Value):List Addr:=match v with
  | .ref a=>(match t a with
    | some o=>(match o.data with
      | .cls cd=>[a,cd.ns]
      | _=>[])
    | none=>[])
  | _=>[]
noncomputable def Md (t:Addr -> Option Obj) (a:Addr):Bool:=seen (t a) fun on=>seen (Agi on.data) fun es=>(es.1.1.toList.all fun e=>Pu e.key) && (nsFind es.1.1 "__init__").isNone
theorem J4 {h:Heap} {t:Addr -> Option Obj} (Z:Has h t) {a:Addr} (x:Md t a=true):∃ m,h.Ns a m /\ m "__init__"=none:=by
  refine ex1 (Bu x) fun on zz=>Ad zz fun en x=>?_
  obtain ⟨es,x⟩:=Ab x
  exact ⟨fun z=>nsFind es.1.1 z,⟨on,es.1.1,es.1.2,F8 Z en,es.2,T0 (an1 x),fun _=>rfl⟩,Option.isNone_iff_eq_none.mp (an2 x)⟩
noncomputable def Aej (t:Addr -> Option Obj) (v:Value):Bool:=seen (Afn v) fun a=>seen (t a.1) fun o=>seen (Agh o.data) fun p=>Md t p.1.ns
theorem Xe {h:Heap} {t:Addr -> Option Obj} (Z:Has h t) {v:Value} {bm tl:List Value} (x:Aej t v=true) (T:OwnTail h bm tl):OwnTail h bm (v :: tl):=by
  obtain ⟨a,x⟩:=Ab x
  refine ex1 (Bu x) fun o zz=>Ad zz fun e x=>?_
  obtain ⟨p,x⟩:=Ab x
  refine ex1 (J4 Z x) fun m zz=>Ad zz fun n i=>?_
  obtain ⟨oc,od,odata,oslots⟩:=o
  obtain ⟨p,hd⟩:=p
  dsimp only at hd
  subst hd
  exact a.2▸.own (F8 Z e) n i T
noncomputable def T4 (t:Addr -> Option Obj):List Value -> Bool
  | []=>false
  | v :: vs=>decide (v :: vs=Agb) || (Aej t v && T4 t vs)
theorem Ng {h:Heap} {t:Addr -> Option Obj} (Z:Has h t):∀ {vs:List Value},T4 t vs=true -> OwnTail h Agb vs
  | [],x=>by cases (show false=true from x)
  | v :: vs,x=>by
    rcases (Bool.or_eq_true _ _).mp x with q | q
    · rw [of_decide_eq_true q];exact .base
    · exact Xe Z (an1 q) (Ng Z (an2 q))
noncomputable def T5 (T:Tab) (K:PySem.W.Frag) (C:Addr) (bm:List Value) (c:Nat):Nat -> List Value -> Bool
  | _,[]=>true
  | d,D :: Ds=>(Pe K D && decide (T.sub c d=(Value.ref C :: bm).contains D) && decide (PySem.W.mroIn K C D=some (T.sub c d))) && T5 T K C bm c (d+1) Ds
theorem Ii {T:Tab} {K:PySem.W.Frag} {C:Addr} {bm:List Value} {c:Nat}:∀ {l:List Value} {d i:Nat} {D:Value},T5 T K C bm c d l=true -> l[i]?=some D -> Pe K D=true /\ T.sub c (d+i)=(Value.ref C :: bm).contains D /\ PySem.W.mroIn K C D=some (T.sub c (d+i))
  | [],_,i,_,_,h=>by simp at h
  | w :: ws,d,i,D,x,h=>by
    cases i with
    | zero =>
      simp at h;subst h
      have y:=an1 x
      exact ⟨an1 (an1 y),of_decide_eq_true (an2 (an1 y)),of_decide_eq_true (an2 y)⟩
    | succ i =>
      have e:d+(i+1)=d+1+i:=by exact o45
      rw [e]
      exact Ii (an2 x) (by simpa using h)
noncomputable def Ah3 (K:PySem.W.Frag) (D:Addr):Bool :=
  decide (PySem.W.findIn K (.ref D) "__getattribute__"=some (some (.builtin "BaseException.__getattribute__"))) && decide (PySem.W.findIn K (.ref D) "__getattr__"=some none) && decide (PySem.W.mroIn K D (.type "BaseException")=some true) &&
  PySem.W.hasDictIn K D && decide (PySem.W.findIn K (.ref D) "__class__"=some (some (.builtin "object.__class__"))) &&
  decide (PySem.W.specialIn K (.builtin "object.__class__") "__get__"=some (some (.builtin "getset_descriptor.__get__"))) && decide (PySem.W.takesIn K (.builtin "object.__class__")=some true) && decide (PySem.W.mroIn K D (.type "object")=some true)
theorem Abn {K:PySem.W.Frag} {D:Addr} (x:Ah3 K D=true):ExcK K D :=
  have x1:=an1 (an1 (an1 (an1 x)))
  ⟨of_decide_eq_true (an1 (an1 (an1 x1))),of_decide_eq_true (an2 (an1 (an1 x1))),of_decide_eq_true (an2 (an1 x1)),an2 x1,of_decide_eq_true (an2 (an1 (an1 (an1 x)))),of_decide_eq_true (an2 (an1 (an1 x))),of_decide_eq_true (an2 (an1 x)),of_decide_eq_true (an2 x)⟩
noncomputable def Aek (o:Option Value):Bool:=seen o fun v=>F7 v (.builtin "ValueError.__new__")
noncomputable def Abo (t:Addr -> Option Obj) (T:Tab) (cls:List Value) (c:Nat) (v:Value):Bool :=
  seen (Afn v) fun C=>seen (t C.1) fun o=>seen (Agh o.data) fun p=>F7 o.cls (.type "type") && (decide (p.1.mro=.ref C.1 :: p.1.mro.tail) && (!p.1.hasDel && ((seen (Tu o.slots.toList) fun q=>Aek q.1.2.2.2.2.1) && (Md t p.1.ns && (T4 t p.1.mro.tail && (T5 T (J3 t ((cls++p.1.mro).flatMap (T3 t))) C.1 p.1.mro.tail c 0 cls && Ah3 (J3 t ((cls++p.1.mro).flatMap (T3 t))) C.1))))))
noncomputable def T6 (t:Addr -> Option Obj) (T:Tab) (cls:List Value):Nat -> List Value -> Bool
  | _,[]=>true
  | c,v :: vs=>(!T.isExc c || Abo t T cls c v) && T6 t T cls (c+1) vs
noncomputable def Pv (t:Addr -> Option Obj) (T:Tab) (cls:List Value):Bool:=T6 t T cls 0 cls && decide (T.subs.length <= cls.length)
theorem Xf {cx:Cx} {t:Addr -> Option Obj} (Z:Has cx.h₀ t) {c:Nat} {v:Value} (x:Abo t cx.T cx.cls c v=true):∃ C,v=.ref C /\ ExcOk cx c C:=by
  obtain ⟨C,x⟩:=Ab x
  refine ex1 (Bu x) fun o zz=>Ad zz fun e x=>?_
  obtain ⟨p,x⟩:=Ab x
  have x2:=an2 x
  have x3:=an2 x2
  have x4:=an2 x3
  have x5:=an2 x4
  have x6:=an2 x5
  refine ex1 (J4 Z (an1 x5)) fun m zz=>Ad zz fun n i=>?_
  refine ex5 (Tx (fun _=>Tz) (an1 x4)) fun k0 k1 k2 k3 k5 hp=>?_
  have ho:=Y9 (Dn (an1 x)) p.2 (of_decide_eq_true (an1 x2)) (not_not (an1 x3)) hp
  have x7:=an1 (an2 x6)
  refine ⟨C.1,C.2,⟨p.1.name,p.1.qualname,p.1.ns,p.1.bases,p.1.mro.tail,p.1.hasDict,p.1.slotNames,p.1.subclasses,p.1.abstract,p.1.collection,o.dict,k0,k1,k2,k3,k5,m,ho▸F8 Z e,n,i,Ng Z (an1 x6),fun d D hD=>?_⟩,⟨_,Os Z _,Abn (an2 (an2 x6)),fun d D hD=>?_⟩⟩
  · have:=(Ii x7 hD).2.1
    rwa [Nat.zero_add] at this
  · have:=Ii x7 hD
    rw [Nat.zero_add] at this
    exact ⟨this.1,this.2.2⟩
theorem Lg {t:Addr -> Option Obj} {T:Tab} {cls:List Value}:∀ {l:List Value} {c i:Nat} {v:Value},T6 t T cls c l=true -> l[i]?=some v -> T.isExc (c+i)=true -> Abo t T cls (c+i) v=true
  | [],_,i,_,_,h,_=>by simp at h
  | w :: ws,c,i,v,x,h,hm=>by
    cases i with
    | zero =>
      simp at h;subst h
      rcases (Bool.or_eq_true _ _).mp (an1 x) with q | q
      · have hm:T.isExc c=true:=hm
        rw [hm] at q;exact Aq q
      · exact q
    | succ i =>
      have e:c+(i+1)=c+1+i:=by exact o45
      rw [e] at hm ⊢
      exact Lg (an2 x) (by simpa using h) hm
theorem Xg {T:Tab} {c:Nat} (h:T.isExc c=true):c < T.subs.length:=by
  have h:2 <= ((T.subs[c]?).getD []).length:=of_decide_eq_true (an2 h)
  cases q:T.subs[c]? with
  | none=>rw [q] at h;cases (show 2 <= 0 from h)
  | some l=>exact (List.getElem?_eq_some_iff.mp q).1
theorem T7 {cx:Cx} {t:Addr -> Option Obj} (Z:Has cx.h₀ t) (x:Pv t cx.T cx.cls=true) (c:Nat) (h:cx.T.isExc c=true):∃ C,cx.cls[c]?=some (.ref C) /\ ExcOk cx c C:=by
  have lt:c < cx.cls.length:=Nat.lt_of_lt_of_le (Xg h) (of_decide_eq_true (an2 x))
  have e:=List.getElem?_eq_getElem lt
  have y:=Lg (an1 x) e (by rw [Nat.zero_add];exact h)
  rw [Nat.zero_add] at y
  refine ex1 (Xf Z y) fun C zz=>Ad zz fun q k=>?_
  exact ⟨C,by rw [e,q],k⟩
theorem Ij {α:Type} {l:List (Str × α)} {p:Str × α -> Bool} (h:l.all p=true) {x:Str} {k:α} (e:l.lookup x=some k):p (x,k)=true:=List.all_eq_true.mp h _ (mem_of_lookup e)
theorem Ot {o:Option Value} {v:Value} (x:(seen o fun w=>F7 v w)=true):o=some v:=by
  refine ex1 (Bu x) fun w zz=>Ad zz fun e x=>?_
  exact e.trans (congrArg some (Dn x).symm)
theorem Abp {cx:Cx} {N:Names} {t:Addr -> Option Obj} {nss:List (List Str)} {mg mb:Str -> Option Value} (Z:Has cx.h₀ t) (g:cx.h₀.Ns mainGlobals mg) (b:cx.h₀.Ns builtinsNs mb) (hb:∀ x:Str,x≠"__name__" -> mb x=bootBuiltins x) (lim:cx.h₀.NoLimit)
    (ok:Tv t N cx.T cx.cls cx.fns nss=true) (okc:Ld t N cx.T cx.attrs cx.fns 0 cx.cls=true) (oka:Mc N cx.attrs=true) (okx:Pv t cx.T cx.cls=true):Base cx N /\ ∀ (f:Nat) (a:Addr),cx.fns[f]?=some a -> ∃ g,cx.T.funs[f]?=some g:=by
  obtain ⟨hlen,hfn⟩:=Nf (an2 ok)
  refine ex1 (Bu (an1 ok)) fun o zz=>Ad zz fun e ok=>?_
  obtain ⟨es,ok⟩:=Ab ok
  have hmg:∀ x,mg x=nsFind es.1.1 x:=by
    refine Ah fun G kG=>?_
    refine ex3 g fun o' es' ep' zz=>Cg zz fun e' d' _ h'=>?_
    refine kG ?_
    cases (F8 Z e).symm.trans e'
    cases es.2.symm.trans d'
    exact fun x=>(h' x).symm
  have c2:=an2 ok
  have c3:=an2 c2
  refine ⟨⟨⟨mg,mb,g,b,fun x k h=>?_,fun x k h=>?_,fun x c h=>?_,fun p hp=>?_⟩,lim,fun k a f h1 h2=>?_,Rh Z okc oka,T7 Z okx⟩,fun f a h=>?_⟩
  · refine ex1 (Bu (Ij (an1 ok) h)) fun a zz=>Ad zz fun e q=>?_
    exact ⟨a,e,(hmg x).trans (Ot q)⟩
  · refine ex1 (Bu (Ij (an1 c2) h)) fun m zz=>Ad zz fun e q=>?_
    refine ex1 (Bu q) fun v zz=>Ad zz fun e' q=>?_
    exact ⟨m,v,e,(hmg x).trans e',fun ρ h=>Xa q⟩
  · refine ex1 (Bu (Ij (an1 c3) h)) fun c' zz=>Ad zz fun e q=>?_
    refine ⟨c',e,((Bool.or_eq_true _ _).mp q).imp (fun q=>(hmg x).trans (Ot q)) fun q=>⟨(hmg x).trans (Option.isNone_iff_eq_none.mp (an1 q)),?_⟩⟩
    refine ex1 (Bu (an2 q)) fun v zz=>Ad zz fun e' q=>?_
    exact (hb _ (of_decide_eq_false (not_not (an2 q)))).trans (e'.trans (congrArg some (Dn (an1 q)).symm))
  · have q:=List.all_eq_true.mp (an2 c3) p hp
    exact ⟨(hmg _).trans (Option.isNone_iff_eq_none.mp (an1 q)),(hb _ (of_decide_eq_false (not_not (an1 (an2 q))))).trans (Ot (an2 (an2 q)))⟩
  · obtain ⟨ns,h⟩:=hfn k a f h1 h2
    exact Abl Z h
  · exact ⟨_,List.getElem?_eq_getElem (hlen▸(List.getElem?_eq_some_iff.mp h).1)⟩
theorem Abq {h:Heap} {a:Addr} {m m':Str -> Option Value} (x:h.Ns a m) (y:h.Ns a m') (n:Str):m n=m' n:=by
  refine Ah fun G kG=>?_
  refine ex3 x fun o es ep zz=>Cg zz fun e d _ f=>?_
  refine ex3 y fun o' es' ep' zz=>Cg zz fun e' d' _ f'=>?_
  refine kG ?_
  rw [e] at e';cases e'
  rw [d] at d';cases d'
  rw [<- f n,f' n]
theorem Ri {cx:Cx} {ρ:Rho} {h:Heap} {vs:List Value} {ns:List Int} (x:PyProof.Rows.IntsAre vs ns):VRs cx ρ h (ns.map .int) vs:=by
  induction x with
  | nil=>exact .nil
  | cons n tk r ih=>exact .cons (.int n tk) ih
theorem finish {prog:Program} {w:World} {N:Names} {t:Addr -> Option Obj} {T:Tab} {cls:List Value} {attrs:List Str} {fns:List Addr} {nss:List (List Str)} {s₁:Shared} {mg mb:Str -> Option Value} {ns:List Int} {vs:List Value} {fa a:Addr} {k d:Nat} {Q:Value -> Shared -> Prop} {E:Value -> Shared -> Prop}
    (Z:Has s₁.heap t) (g:s₁.heap.Ns mainGlobals mg) (b:s₁.heap.Ns builtinsNs mb) (hb:∀ x:Str,x≠"__name__" -> mb x=bootBuiltins x) (lim:s₁.heap.NoLimit) (ok:Tv t N T cls fns nss=true) (okc:Ld t N T attrs fns 0 cls=true) (oka:Mc N attrs=true) (okx:Pv t T cls=true) (hsys:(t sysModules).isSome=true)
    (hobj:s₁.heap.get? a=some (B1 vs 0)) (hI:PyProof.Rows.IntsAre vs ns) (hlen:ns.length <= 63) (hf:mg "law"=some (.ref fa)) (hk:N.funs.lookup ("law":Str)=some k) (room:Room callerA d)
    (hlaw:∃ H',Af T d k [.script ns] []=.ok (.bool true) H')
    (kq:∀ s',(∀ b o,s₁.heap.get? b=some o -> s'.heap.get? b=some o) -> s'.os=s₁.os -> s'.gens=s₁.gens -> Q (.bool true) s') :
    wpAny (model prog w) callerA (call (.ref fa) [.ref a]) Q E s₁:=by
  refine Ah fun G kG=>?_
  obtain ⟨B,defs⟩:=Abp (cx:=⟨prog,w,T,s₁,cls,attrs,fns⟩) (N:=N) (nss:=nss) Z g b hb lim ok okc oka okx
  refine ex2 B.ns fun mg' mb' zz=>Cg zz fun g' b' q _=>?_
  refine ex1 (q "law" k hk) fun a' zz=>Ad zz fun ha' hx=>?_
  refine kG ?_
  have e:fa=a':=by
    have:=Abq g g' "law"
    rw [hf,hx] at this
    cases this;rfl
  subst e
  obtain ⟨o1,e1⟩:=Option.isSome_iff_exists.mp hsys
  have R:Rel ⟨prog,w,T,s₁,cls,attrs,fns⟩ [] [] s₁ :=
    ⟨rfl,fun l o p h _=>by simp at h,fun i j p q _ h _=>by simp at h,fun p hp=>by simp at hp,fun _ _ e=>e,⟨o1,F8 Z e1⟩,⟨s₁.heap,s₁.toks,rfl⟩⟩
  obtain ⟨H',hH⟩:=hlaw
  have x:=Tr B defs d k fa [.script ns] [.ref a] callerA [] ha' room.toF rfl [] [] s₁ R ⟨.cons (.script hobj (by rw [sizeLine_eq];exact o46 hlen) (Ri hI)) .nil,fun en he=>by cases he⟩
  change Bg _ callerA (Af T d k [.script ns] []) _ _ _ _ at x
  rw [hH] at x
  refine wpAny_mono x (fun v s' ⟨ρ',F,R',vr⟩=>?_) fun _ _ q=>q.elim
  have vr':VR ⟨prog,w,T,s₁,cls,attrs,fns⟩ ρ' s'.heap (.bool true) v:=vr
  cases vr'
  refine ex2 R'.rest fun h tk e=>?_
  exact kq s' R'.base (by rw [e]) (by rw [e])
end Mine.Internal
namespace Mine.Internal
open PySem PySem.W PySem.Calls
noncomputable def J5 (tb:String -> Option Builtin) (p:Program) (w:World) (n₀:Nat) (ann:Option Value):Nat -> SharedT -> Thread -> Option SharedT
  | 0,_,_=>none
  | n+1,s,t=>match through t with
    | true=>some s
    | false=>match stepOk n₀ ann t with
      | false=>none
      | true=>match stepT (denote tb) p w s t with
        | some (s',t')=>J5 tb p w n₀ ann n s' t'
        | none=>none
theorem I3 {tb:String -> Option Builtin} {p:Program} {w:World} {n₀:Nat} {ann:Option Value} {n:Nat} {s:SharedT} {t:Thread}:J5 tb p w n₀ ann (n+1) s t=(match through t with
    | true=>some s
    | false=>match stepOk n₀ ann t with
      | false=>none
      | true=>match stepT (denote tb) p w s t with
        | some (s',t')=>J5 tb p w n₀ ann n s' t'
        | none=>none):=rfl
theorem Lh {tb:String -> Option Builtin} {p:Program} {w:World} {n₀:Nat} {ann:Option Value}:∀ {n:Nat} {s s':SharedT} {t:Thread},J5 tb p w n₀ ann n s t=some s' -> topRun tb p w n₀ ann n s.abs t=some s'.abs
  | 0,_,_,_,h=>by cases h
  | n+1,s,s',t,h=>by
    rw [I3] at h
    unfold topRun
    cases ht:through t with
    | true=>rw [ht] at h;cases h;rfl
    | false =>
      rw [ht] at h
      cases hk:stepOk n₀ ann t with
      | false=>rw [hk] at h;cases h
      | true =>
        rw [hk] at h
        cases hs:stepT (denote tb) p w s t with
        | none=>rw [hs] at h;exact nomatch h
        | some r=>obtain ⟨s₂,t₂⟩:=r;rw [hs] at h;rw [stepT_spec hs];exact Lh h
noncomputable def Ou (p:Program) (w:World) (n₀:Nat) (ann:Option Value) (n:Nat):SharedT -> Thread -> Option SharedT :=
  @Nat.rec (fun _=>SharedT -> Thread -> Option SharedT) (fun _ _=>none) (fun _ ih s t=>@Bool.rec (fun _=>Option SharedT)
    (@Bool.rec (fun _=>Option SharedT) none (@Option.rec (SharedT × Thread) (fun _=>Option SharedT) none (fun r=>ih r.1 r.2) (PySem.W.Fast.tw10156331382660048174 (PySem.W.Fast.tw11892475500146522536 treeTable) p w s t)) (PySem.W.Fast.tw6613529449190102663 n₀ ann t)) (some s) (through t)) n
theorem Li {p:Program} {w:World} {n₀:Nat} {ann:Option Value}:∀ (n:Nat) (s:SharedT) (t:Thread),Ou p w n₀ ann n s t=J5 treeTable p w n₀ ann n s t
  | 0,_,_=>rfl
  | n+1,s,t=>by
    show @Bool.rec (fun _=>Option SharedT) (@Bool.rec (fun _=>Option SharedT) none (@Option.rec (SharedT × Thread) (fun _=>Option SharedT) none (fun r=>Ou p w n₀ ann n r.1 r.2) (PySem.W.Fast.tw10156331382660048174 (PySem.W.Fast.tw11892475500146522536 treeTable) p w s t)) (PySem.W.Fast.tw6613529449190102663 n₀ ann t)) (some s) (through t)=_
    rw [<- PySem.W.Fast.te10156331382660048174,<- PySem.W.Fast.te11892475500146522536,<- PySem.W.Fast.te6613529449190102663]
    rw [I3]
    cases through t with
    | true=>rfl
    | false =>
      cases stepOk n₀ ann t with
      | false=>rfl
      | true =>
        cases hs:stepT (denote treeTable) p w s t with
        | none=>rfl
        | some r=>obtain ⟨s₂,t₂⟩:=r;exact Li n s₂ t₂
noncomputable def Agn (P:Params):BT:=((boot_heap P).objs.toList.foldl (fun (x:BT × Nat) o=>(x.1.ins x.2 o,x.2+1)) (.nil,0)).1
noncomputable def Ael (w:World) (os:OsState):SharedT:=⟨Agn w.params,(boot_heap w.params).objs.size,(boot_heap w.params).life,#[],boot_drawn,boot_toks,os⟩
theorem T8 (w:World):((boot_heap w.params).isNs mainGlobals && (#[]:Array GenState).size == 0,(boot_heap w.params).objs.size,(boot_heap w.params).nsMap mainGlobals "__annotations__")=(true,11,some (.ref 6)):=by kernel_rfl
theorem T9 (w:World) (os:OsState):(Ael w os).abs=⟨boot_heap w.params,#[],boot_drawn,boot_toks,os⟩:=by kernel_rfl
theorem Abr {p q:Program} {loose:List Str} {Xt:Shared -> Bool} {α:Type} {Yf:Shared -> α} {Ya:World -> α} {N M:Nat} {g0:Bool}
    (e:opening p=plainProg p.main.scope.names) (hN:Nat.ble 600 N=true) (f:∀ s,fenceModules? p s=some s) (le:Nat.ble M N=true)
    (run:∀ (w:World) (os:OsState),(Ou p w 11 (some (.ref 6)) M (Ael w os) (topStub p)).map (fun s=>(staticsOk (importedModules p.main.body) (boot_heap w.params) s.abs.heap && namesBound p s.abs.heap && gensDone s.abs && laidKept (boot_heap w.params) s.abs.heap,
      openSeen q loose (importedModules p.main.body) Xt g0 s.abs,Yf s.abs))=some (true,openGood q loose,Ya w)):LeftO p q loose Xt Yf Ya N g0:=fun w=>by
  refine ex1 (Option.map_eq_some_iff.mp (boot_open e hN f w)) fun zn0 zz=>Ad zz fun e1 e'=>?_;obtain ⟨h,gs,d,k,os⟩:=zn0
  obtain ⟨rfl,rfl,rfl,rfl⟩:h=boot_heap w.params /\ gs=#[] /\ d=boot_drawn /\ k=boot_toks:=by simpa using e'
  obtain ⟨z1,z2,z3⟩:_ /\ _ /\ _:=by simpa only [Prod.mk.injEq] using T8 w
  refine ex1 (Option.map_eq_some_iff.mp (run w os)) fun s zz=>Ad zz fun h1 h2=>?_
  obtain ⟨l1,l2,l3⟩:_ /\ _ /\ _:=by simpa only [Prod.mk.injEq] using h2
  rw [Li] at h1
  have r:=Lh h1
  rw [T9] at r
  replace r:=topRun_mono (N - M) _ _ _ _ r
  rw [show M+(N - M)=N by have:=Nat.le_of_ble_eq_true le;exact o47 this] at r
  have t:topFrom treeTable p w N ⟨boot_heap w.params,#[],boot_drawn,boot_toks,os⟩=some s.abs:=by
    unfold topFrom
    dsimp only
    rw [z1,z2,z3,r]
    show (match staticsOk (importedModules p.main.body) (boot_heap w.params) s.abs.heap && namesBound p s.abs.heap && gensDone s.abs && laidKept (boot_heap w.params) s.abs.heap with | true=>_ | false=>_)=_
    rw [l1]
  unfold openEnds
  rw [e1]
  show (topFrom treeTable p w N _).map _=_
  rw [t]
  exact congrArg some (Prod.ext l2 l3)
end Mine.Internal
namespace Mine.Internal.Pure
open PySem
section
variable {α β:Type} {m:M α} {f:α -> M β} {H H':Hp} {a:α} {T:Tab} {Φ:Funs} {Γ:Env'}
theorem fcn {α:Type} {p:α -> Prop}:∀ x∈([]:List α),p x:=fun _ h=>nomatch h
theorem fc {α:Type} {p:α -> Prop} {a:α} {l:List α} (h:p a) (k:∀ x∈l,p x):∀ x∈a :: l,p x:=List.forall_mem_cons.mpr ⟨h,k⟩
theorem Aem (a:α) (H:Hp):M.ret a H=.ok a H:=rfl
theorem Dh (f:Hp -> Option α) (H:Hp):M.look f H=(match f H with | some a=>.ok a H | none=>.bad):=rfl
theorem Me (ns:List Int):bfV .len [.script ns]=M.ret (.int ns.length):=by
  funext H
  show (match (some (Val.int (ns.map Val.int).length):Option Val) with | some a=>Res.ok a H | none=>.bad)=_
  rw [List.length_map];rfl
theorem Rj {l:Nat} {xs:List Val} {H:Hp} (h:H[l]?=some (.list xs)):bfV .len [.loc l] H=.ok (.int xs.length) H:=by
  have e:bfV .len [.loc l]=M.look (fun H=>(Cc (.loc l) H).map fun xs=>Val.int xs.length):=rfl
  rw [e,Dh]
  rw [Jb h];rfl
theorem add_int (x y:Int):Adc .add (.int x) (.int y)=M.ret (.int (x+y)):=rfl
theorem sub_int (x y:Int):Adc .sub (.int x) (.int y)=M.ret (.int (x - y)):=rfl
theorem Rk {ns:List Int} {k:Nat} {v:Int} (h:ns[k]?=some v):C5 (.script ns) (.int k)=M.ret (.int v):=by
  have lt:=(List.getElem?_eq_some_iff.mp h).1
  funext H
  have e:C5 (.script ns) (.int k)=M.look (fun _=>(Cp (k:Int) ns.length).bind fun p=>(ns[p]?).map Val.int):=rfl
  have:Cp (k:Int) ns.length=some k:=by
    unfold Cp
    rw [if_pos (by exact o48),if_pos (by exact o49 lt)];rfl
  rw [e,Dh,this]
  simp only [Option.bind_some,h,Option.map_some,Aem]
theorem Abs {d k:Nat} {g:MFun} {args:List Val} (h:T.funs[k]?=some g) (ha:args.length=g.arity) :
    Af T (d+1) k args H=Aac (execSs T (Af T d) g.body (args.map some++List.replicate g.nvars none) H):=by
  rw [Af,h]
  show runF T (Af T d) g args H=_
  unfold runF
  rw [if_pos ha]
end
noncomputable def Wp {α:Type} (m:M α) (H:Hp) (Q:α -> Hp -> Prop) (E:Nat -> Hp -> Prop):Prop :=
  match m H with
  | .ok a H'=>Q a H'
  | .exc c H'=>E c H'
  | .bad=>False
noncomputable def WpS (r:ResS) (Q:Env' -> Hp -> Prop) (R:Val -> Hp -> Prop) (E:Nat -> Env' -> Hp -> Prop):Prop :=
  match r with
  | .next Γ H=>Q Γ H
  | .ret v H=>R v H
  | .exc c Γ H=>E c Γ H
  | .bad=>False
noncomputable def Pw:Env' -> Nat -> (Val -> Prop) -> Prop
  | [],_,_=>False
  | some v :: _,0,k=>k v
  | none :: _,0,_=>False
  | _ :: Γ,n+1,k=>Pw Γ n k
noncomputable def Et:Val -> (Bool -> Prop) -> Prop
  | .bool b,k=>k b
  | _,_=>False
noncomputable def Ea {α:Type}:Option α -> (α -> Prop) -> Prop
  | some a,k=>k a
  | none,_=>False
noncomputable def brB:Bool -> Prop -> Prop -> Prop
  | true,a,_=>a
  | false,_,b=>b
noncomputable def NoE:Nat -> Hp -> Prop:=fun _ _=>False
noncomputable def NoX:Nat -> Env' -> Hp -> Prop:=fun _ _ _=>False
noncomputable def Ja (op:BOp) (a b:Val) (H:Hp) (Q:Val -> Hp -> Prop) (E:Nat -> Hp -> Prop):Prop :=
  match a,b with
  | .int x,.int y=>(match op with
    | .add=>Q (.int (x+y)) H
    | .sub=>Q (.int (x - y)) H
    | .mul=>(Eo x || Eo y)=true /\ Q (.int (x * y)) H
    | .fdiv=>¬ (y=0 \/ 1073741824 <= y.natAbs) /\ Q (.int (Int.fdiv x y)) H
    | .mod=>¬ (y=0) /\ Q (.int (Int.fmod x y)) H)
  | a,b=>Wp (Adc op a b) H Q E
mutual
noncomputable def wpE (T:Tab) (Φ:Funs):ME -> Env' -> Hp -> (Val -> Hp -> Prop) -> (Nat -> Hp -> Prop) -> Prop
  | .none,_,H,Q,_=>Q .none H
  | .bool b,_,H,Q,_=>Q (.bool b) H
  | .int i,_,H,Q,_=>Q (.int i) H
  | .str s,_,H,Q,_=>Q (.str s) H
  | .glob k,_,H,Q,_=>Ea T.globs[k]? fun v=>Q v H
  | .var i,Γ,H,Q,_=>Pw Γ i fun v=>Q v H
  | .bin op a b,Γ,H,Q,E=>wpE T Φ a Γ H (fun x H=>wpE T Φ b Γ H (fun y H=>Ja op x y H Q E) E) E
  | .neg a,Γ,H,Q,E=>Wp (Am T Φ (.neg a) Γ) H Q E
  | .not a,Γ,H,Q,E=>wpE T Φ a Γ H (fun x H=>Et x fun b=>Q (.bool (!b)) H) E
  | .and a b,Γ,H,Q,E=>wpE T Φ a Γ H (fun x H=>Et x fun t=>brB t (wpE T Φ b Γ H Q E) (Q (.bool false) H)) E
  | .or a b,Γ,H,Q,E=>wpE T Φ a Γ H (fun x H=>Et x fun t=>brB t (Q (.bool true) H) (wpE T Φ b Γ H Q E)) E
  | .cmp op a b,Γ,H,Q,E=>wpE T Φ a Γ H (fun x H=>wpE T Φ b Γ H (fun y H=>Ea (Dy op x y H) fun r=>Q (.bool r) H) E) E
  | .cmp2 op1 op2 a b c,Γ,H,Q,E=>wpE T Φ a Γ H (fun x H=>wpE T Φ b Γ H (fun y H=>Ea (Dy op1 x y H) fun r=>brB r (wpE T Φ c Γ H (fun z H=>Ea (Dy op2 y z H) fun r=>Q (.bool r) H) E) (Q (.bool false) H)) E) E
  | .sub a i,Γ,H,Q,E=>wpE T Φ a Γ H (fun x H=>wpE T Φ i Γ H (fun y H=>Wp (C5 x y) H Q E) E) E
  | .slice a lo hi,Γ,H,Q,E=>wpE T Φ a Γ H (fun x H=>wpO T Φ lo Γ H (fun l H=>wpO T Φ hi Γ H (fun h H=>Wp (Gr x l h) H Q E) E) E) E
  | .tup es,Γ,H,Q,E=>wpEs T Φ es Γ H (fun vs H=>Q (.tup vs) H) E
  | .list es,Γ,H,Q,E=>wpEs T Φ es Γ H (fun vs H=>Q (.loc H.length) (H++[.list vs])) E
  | .dict,_,H,Q,_=>Q (.loc H.length) (H++[.dict []])
  | .attr a n,Γ,H,Q,E=>wpE T Φ a Γ H (fun x H=>Wp (I7 x n) H Q E) E
  | .call f es,Γ,H,Q,E=>wpEs T Φ es Γ H (fun vs H=>Wp (Φ f vs) H Q E) E
  | .new c es,Γ,H,Q,E=>Ea (T.meth c 0) (fun _=>wpEs T Φ es Γ H (fun vs H=>Wp (Qk T Φ c vs) H Q E) E)
  | .umeth a m es,Γ,H,Q,E=>wpE T Φ a Γ H (fun o H=>Wp (C3 T o m) H (fun k H=>wpEs T Φ es Γ H (fun vs H=>Wp (Φ k (o :: vs)) H Q E) E) E) E
  | .bf f es,Γ,H,Q,E=>wpEs T Φ es Γ H (fun vs H=>Wp (bfV f vs) H Q E) E
  | .bm a m es,Γ,H,Q,E=>wpE T Φ a Γ H (fun o H=>Ea (E2 m o H) fun _=>wpEs T Φ es Γ H (fun vs H=>Wp (bmV m o vs) H Q E) E) E
  | .isinst a t,Γ,H,Q,E=>wpE T Φ a Γ H (fun x H=>Wp (Bh T x t) H Q E) E
  | .comp elt it cond,Γ,H,Q,E=>Wp (Am T Φ (.comp elt it cond) Γ) H Q E
noncomputable def wpO (T:Tab) (Φ:Funs):MEo -> Env' -> Hp -> (Val -> Hp -> Prop) -> (Nat -> Hp -> Prop) -> Prop
  | .none,_,H,Q,_=>Q .none H
  | .some e,Γ,H,Q,E=>wpE T Φ e Γ H Q E
noncomputable def wpEs (T:Tab) (Φ:Funs):MEs -> Env' -> Hp -> (List Val -> Hp -> Prop) -> (Nat -> Hp -> Prop) -> Prop
  | .nil,_,H,Q,_=>Q [] H
  | .cons e es,Γ,H,Q,E=>wpE T Φ e Γ H (fun v H=>wpEs T Φ es Γ H (fun vs H=>Q (v :: vs) H) E) E
end
mutual
noncomputable def wpS (T:Tab) (Φ:Funs):MS -> Env' -> Hp -> (Env' -> Hp -> Prop) -> (Val -> Hp -> Prop) -> (Nat -> Env' -> Hp -> Prop) -> Prop
  | .expr e,Γ,H,Q,_,E=>wpE T Φ e Γ H (fun _ H=>Q Γ H) fun c H=>E c Γ H
  | .assign i e,Γ,H,Q,_,E=>wpE T Φ e Γ H (fun v H=>Q (Γ.set i (some v)) H) fun c H=>E c Γ H
  | .setattr o n e,Γ,H,Q,_,E=>wpE T Φ e Γ H (fun v H=>wpE T Φ o Γ H (fun o H=>Wp (Bx o n v) H (fun _ H=>Q Γ H) fun c H=>E c Γ H) fun c H=>E c Γ H) fun c H=>E c Γ H
  | .setitem o i e,Γ,H,Q,_,E=>wpE T Φ e Γ H (fun v H=>wpE T Φ o Γ H (fun o H=>wpE T Φ i Γ H (fun i H=>Wp (Ax o i v) H (fun _ H=>Q Γ H) fun c H=>E c Γ H) fun c H=>E c Γ H) fun c H=>E c Γ H) fun c H=>E c Γ H
  | .ret e,Γ,H,_,R,E=>wpO T Φ e Γ H R fun c H=>E c Γ H
  | .ite c t f,Γ,H,Q,R,E=>wpE T Φ c Γ H (fun v H=>Et v fun b=>brB b (wpSs T Φ t Γ H Q R E) (wpSs T Φ f Γ H Q R E)) fun c H=>E c Γ H
  | .raise c _,Γ,H,_,_,E=>T.isExc c=true /\ E c Γ H
  | .loop c b,Γ,H,Q,R,E=>WpS (Dg T Φ (.loop c b) Γ H) Q R E
  | .each i a b,Γ,H,Q,R,E=>WpS (Dg T Φ (.each i a b) Γ H) Q R E
  | .eachPair i j a b,Γ,H,Q,R,E=>WpS (Dg T Φ (.eachPair i j a b) Γ H) Q R E
  | .tryx a b,Γ,H,Q,R,E=>WpS (Dg T Φ (.tryx a b) Γ H) Q R E
noncomputable def wpSs (T:Tab) (Φ:Funs):MSs -> Env' -> Hp -> (Env' -> Hp -> Prop) -> (Val -> Hp -> Prop) -> (Nat -> Env' -> Hp -> Prop) -> Prop
  | .nil,Γ,H,Q,_,_=>Q Γ H
  | .cons s ss,Γ,H,Q,R,E=>wpS T Φ s Γ H (fun Γ H=>wpSs T Φ ss Γ H Q R E) R E
end
section
variable {α β:Type} {T:Tab} {Φ:Funs} {Γ:Env'} {H:Hp}
variable {Q:Val -> Hp -> Prop} {E:Nat -> Hp -> Prop} {QS:Env' -> Hp -> Prop} {R:Val -> Hp -> Prop} {ES:Nat -> Env' -> Hp -> Prop}
theorem Nh {Q:α -> Hp -> Prop} (a:α):Wp (M.ret a) H Q E=Q a H:=rfl
theorem Aw {Q:β -> Hp -> Prop} (m:M α) (f:α -> M β):Wp (m.bnd f) H Q E=Wp m H (fun a H'=>Wp (f a) H' Q E) E:=by
  unfold Wp M.bnd
  cases m H <;> rfl
theorem Xh (o:HObj):Wp (M.alloc o) H Q E=Q (.loc H.length) (H++[o]):=rfl
theorem Wp.mono {Q Q':α -> Hp -> Prop} {E':Nat -> Hp -> Prop} {m:M α} (h:Wp m H Q E) (hq:∀ a H',Q a H' -> Q' a H') (he:∀ c H',E c H' -> E' c H'):Wp m H Q' E':=by
  unfold Wp at h ⊢
  cases hm:m H with
  | ok a H'=>rw [hm] at h;exact hq _ _ h
  | exc c H'=>rw [hm] at h;exact he _ _ h
  | bad=>rw [hm] at h;exact h
theorem Wp.then {Q Q':α -> Hp -> Prop} {m:M α} (h:Wp m H Q NoE) (hq:∀ a H',Q a H' -> Q' a H'):Wp m H Q' E :=
  h.mono hq (fun _ _ f=>f.elim)
theorem Wp.of_eq {Q:α -> Hp -> Prop} {m:M α} {a:α} {H':Hp} (h:m H=.ok a H') (q:Q a H'):Wp m H Q E:=by
  unfold Wp;rw [h];exact q
theorem Wp.get {Q:α -> Hp -> Prop} {m:M α} (h:Wp m H Q NoE):∃ a H',m H=.ok a H' /\ Q a H':=by
  unfold Wp at h
  cases hm:m H with
  | ok a H'=>rw [hm] at h;exact ⟨a,H',rfl,h⟩
  | exc c H'=>rw [hm] at h;exact h.elim
  | bad=>rw [hm] at h;exact h.elim
theorem WpS.mono {r:ResS} {Q':Env' -> Hp -> Prop} {R':Val -> Hp -> Prop} {E':Nat -> Env' -> Hp -> Prop} (h:WpS r QS R ES) (hq:∀ Γ H',QS Γ H' -> Q' Γ H') (hr:∀ v H',R v H' -> R' v H') (he:∀ c Γ H',ES c Γ H' -> E' c Γ H'):WpS r Q' R' E':=by
  cases r with
  | next Γ H=>exact hq _ _ h
  | ret v H=>exact hr _ _ h
  | exc c Γ H=>exact he _ _ _ h
  | bad=>exact h
theorem C4 (m:M α) (Γ:Env') (f:α -> Hp -> ResS):WpS (Hf m Γ f H) QS R ES=Wp m H (fun a H'=>WpS (f a H') QS R ES) (fun c H'=>ES c Γ H'):=by
  unfold Wp Hf
  cases m H <;> rfl
theorem Px (r:ResS) (f:Env' -> Hp -> ResS):WpS (Mw r f) QS R ES=WpS r (fun Γ H=>WpS (f Γ H) QS R ES) R ES:=by
  cases r <;> rfl
theorem Za {Q:α -> Hp -> Prop} (o:Option α):Wp (M.ofOpt o) H Q E=Ea o (fun v=>Q v H):=by cases o <;> rfl
theorem G4 {Q:α -> Hp -> Prop} (f:Hp -> Option α):Wp (M.look f) H Q E=Ea (f H) (fun v=>Q v H):=by
  unfold Wp M.look
  cases f H <;> rfl
theorem Eu:∀ (Γ:Env') (i:Nat) (k:Val -> Prop),Pw Γ i k=Ea (match Γ[i]? with | some (some v)=>some v | _=>none) k
  | [],i,k=>by cases i <;> rfl
  | some v :: Γ,0,k=>rfl
  | none :: Γ,0,k=>rfl
  | o :: Γ,i+1,k=>by
    have:Pw (o :: Γ) (i+1) k=Pw Γ i k:=by cases o <;> rfl
    rw [this,Eu Γ i k,List.getElem?_cons_succ]
theorem Ai (v:Val) (Γ:Env') (k:Val -> Prop):Pw (some v :: Γ) 0 k=k v:=rfl
theorem As (o:Option Val) (Γ:Env') (n:Nat) (k:Val -> Prop):Pw (o :: Γ) (n+1) k=Pw Γ n k:=by cases o <;> rfl
theorem Dt (v:Val) (Γ:Env') (n:Nat) (k:Val -> Prop):Pw (some v :: Γ) (n+1) k=Pw Γ n k:=rfl
theorem Ua (Γ:Env') (n:Nat) (k:Val -> Prop):Pw (none :: Γ) (n+1) k=Pw Γ n k:=rfl
theorem Ac (b:Bool) (k:Bool -> Prop):Et (.bool b) k=k b:=rfl
theorem Bo {α:Type} (a:α) (k:α -> Prop):Ea (some a) k=k a:=rfl
theorem B0 {α:Type} {o:Option α} {a:α} (h:o=some a) (k:α -> Prop):Ea o k=k a:=by rw [h];rfl
theorem C0 (A B:Prop):brB true A B=A:=rfl
theorem Bp (A B:Prop):brB false A B=B:=rfl
theorem Ek (b:Bool) (A B:Prop):brB (!b) A B=brB b B A:=by cases b <;> rfl
theorem D1 {p:Prop} [Decidable p] (h:p) (A B:Prop):brB (decide p) A B=A:=by rw [decide_eq_true h];rfl
theorem Cq {p:Prop} [Decidable p] (h:¬ p) (A B:Prop):brB (decide p) A B=B:=by rw [decide_eq_false h];rfl
theorem F9 {p:Prop} [Decidable p] {A B:Prop} (h1:p -> A) (h2:¬ p -> B):brB (decide p) A B:=by
  by_cases h:p
  · rw [D1 h];exact h1 h
  · rw [Cq h];exact h2 h
theorem A7 {b:Bool} {A B:Prop} (h1:b=true -> A) (h2:b=false -> B):brB b A B:=by
  cases b
  · exact h2 rfl
  · exact h1 rfl
theorem Hr {Q:Bool -> Hp -> Prop} (v:Val):Wp (C8 v) H Q E=Et v (fun b=>Q b H):=by cases v <;> rfl
theorem J6 (x:Val) (A B:Prop) (f:Bool -> Prop) (h1:f true=A) (h2:f false=B):Et x f=Et x (fun t=>brB t A B):=by
  cases x with
  | bool b=>cases b;exact h2;exact h1
  | _=>rfl
theorem Abt (x:Option Bool) (A B:Prop) (f:Bool -> Prop) (h1:f true=A) (h2:f false=B):Ea x f=Ea x (fun t=>brB t A B):=by
  cases x with
  | some b=>cases b;exact h2;exact h1
  | _=>rfl
theorem Zb {Q:α -> Hp -> Prop} (p:Prop) [Decidable p] (m:M α):Wp (if p then m else M.bad) H Q E=(p /\ Wp m H Q E):=by
  by_cases h:p
  · rw [if_pos h];simp [h]
  · rw [if_neg h];simp [h];exact fun h=>h
theorem Ub {Q:α -> Hp -> Prop} (p:Prop) [Decidable p] (m:M α):Wp (if p then M.bad else m) H Q E=(¬ p /\ Wp m H Q E):=by
  by_cases h:p
  · rw [if_pos h];simp [h];exact fun h=>h
  · rw [if_neg h];simp [h]
theorem Xi (op:BOp) (a b:Val):Wp (Adc op a b) H Q E=Ja op a b H Q E:=by
  unfold Ja
  split
  · cases op with
    | add=>rfl
    | sub=>rfl
    | mul=>exact Zb _ _
    | fdiv=>exact Ub _ _
    | mod=>exact Ub _ _
  · rfl
theorem El:wpE T Φ .none Γ H Q E=Q .none H:=rfl
theorem Ik (b:Bool):wpE T Φ (.bool b) Γ H Q E=Q (.bool b) H:=rfl
theorem A3 (i:Int):wpE T Φ (.int i) Γ H Q E=Q (.int i) H:=rfl
theorem Uc (s:Str):wpE T Φ (.str s) Γ H Q E=Q (.str s) H:=rfl
theorem wp_glob (k:Nat):wpE T Φ (.glob k) Γ H Q E=Ea T.globs[k]? (fun v=>Q v H):=rfl
theorem Az (i:Nat):wpE T Φ (.var i) Γ H Q E=Pw Γ i (fun v=>Q v H):=rfl
theorem B9 (op:BOp) (a b:ME):wpE T Φ (.bin op a b) Γ H Q E=wpE T Φ a Γ H (fun x H=>wpE T Φ b Γ H (fun y H=>Ja op x y H Q E) E) E:=rfl
theorem Ca (a:ME):wpE T Φ (.not a) Γ H Q E=wpE T Φ a Γ H (fun x H=>Et x fun b=>Q (.bool (!b)) H) E:=rfl
theorem Fs (a b:ME):wpE T Φ (.and a b) Γ H Q E=wpE T Φ a Γ H (fun x H=>Et x fun t=>brB t (wpE T Φ b Γ H Q E) (Q (.bool false) H)) E:=rfl
theorem Du (a b:ME):wpE T Φ (.or a b) Γ H Q E=wpE T Φ a Γ H (fun x H=>Et x fun t=>brB t (Q (.bool true) H) (wpE T Φ b Γ H Q E)) E:=rfl
theorem A4 (op:COp) (a b:ME):wpE T Φ (.cmp op a b) Γ H Q E=wpE T Φ a Γ H (fun x H=>wpE T Φ b Γ H (fun y H=>Ea (Dy op x y H) fun r=>Q (.bool r) H) E) E:=rfl
theorem Il (op1 op2:COp) (a b c:ME):wpE T Φ (.cmp2 op1 op2 a b c) Γ H Q E=wpE T Φ a Γ H (fun x H=>wpE T Φ b Γ H (fun y H=>Ea (Dy op1 x y H) fun r=>brB r (wpE T Φ c Γ H (fun z H=>Ea (Dy op2 y z H) fun r=>Q (.bool r) H) E) (Q (.bool false) H)) E) E:=rfl
theorem A8 (a i:ME):wpE T Φ (.sub a i) Γ H Q E=wpE T Φ a Γ H (fun x H=>wpE T Φ i Γ H (fun y H=>Wp (C5 x y) H Q E) E) E:=rfl
theorem Hs (a:ME) (lo hi:MEo):wpE T Φ (.slice a lo hi) Γ H Q E=wpE T Φ a Γ H (fun x H=>wpO T Φ lo Γ H (fun l H=>wpO T Φ hi Γ H (fun h H=>Wp (Gr x l h) H Q E) E) E) E:=rfl
theorem Je:wpO T Φ .none Γ H Q E=Q .none H:=rfl
theorem A9 (e:ME):wpO T Φ (.some e) Γ H Q E=wpE T Φ e Γ H Q E:=rfl
theorem Dd (es:MEs):wpE T Φ (.tup es) Γ H Q E=wpEs T Φ es Γ H (fun vs H=>Q (.tup vs) H) E:=rfl
theorem Ga (es:MEs):wpE T Φ (.list es) Γ H Q E=wpEs T Φ es Γ H (fun vs H=>Q (.loc H.length) (H++[.list vs])) E:=rfl
theorem J7:wpE T Φ .dict Γ H Q E=Q (.loc H.length) (H++[.dict []]):=rfl
theorem D2 (a:ME) (n:Nat):wpE T Φ (.attr a n) Γ H Q E=wpE T Φ a Γ H (fun x H=>Wp (I7 x n) H Q E) E:=rfl
theorem Ay (f:Nat) (es:MEs):wpE T Φ (.call f es) Γ H Q E=wpEs T Φ es Γ H (fun vs H=>Wp (Φ f vs) H Q E) E:=rfl
theorem Py (c:Nat) (es:MEs):wpE T Φ (.new c es) Γ H Q E=Ea (T.meth c 0) (fun _=>wpEs T Φ es Γ H (fun vs H=>Wp (Qk T Φ c vs) H Q E) E):=rfl
theorem Cb (a:ME) (m:Nat) (es:MEs):wpE T Φ (.umeth a m es) Γ H Q E=wpE T Φ a Γ H (fun o H=>Wp (C3 T o m) H (fun k H=>wpEs T Φ es Γ H (fun vs H=>Wp (Φ k (o :: vs)) H Q E) E) E) E:=rfl
theorem E7 (f:BF) (es:MEs):wpE T Φ (.bf f es) Γ H Q E=wpEs T Φ es Γ H (fun vs H=>Wp (bfV f vs) H Q E) E:=rfl
theorem Kw (a:ME) (m:BM) (es:MEs):wpE T Φ (.bm a m es) Γ H Q E=wpE T Φ a Γ H (fun o H=>Ea (E2 m o H) fun _=>wpEs T Φ es Γ H (fun vs H=>Wp (bmV m o vs) H Q E) E) E:=rfl
theorem By (a:ME) (t:Ty):wpE T Φ (.isinst a t) Γ H Q E=wpE T Φ a Γ H (fun x H=>Wp (Bh T x t) H Q E) E:=rfl
theorem A5 {Q:List Val -> Hp -> Prop}:wpEs T Φ .nil Γ H Q E=Q [] H:=rfl
theorem Al {Q:List Val -> Hp -> Prop} (e:ME) (es:MEs):wpEs T Φ (.cons e es) Γ H Q E=wpE T Φ e Γ H (fun v H=>wpEs T Φ es Γ H (fun vs H=>Q (v :: vs) H) E) E:=rfl
theorem Bv:wpSs T Φ .nil Γ H QS R ES=QS Γ H:=rfl
theorem Ag (s:MS) (ss:MSs):wpSs T Φ (.cons s ss) Γ H QS R ES=wpS T Φ s Γ H (fun Γ H=>wpSs T Φ ss Γ H QS R ES) R ES:=rfl
theorem Ev (e:ME):wpS T Φ (.expr e) Γ H QS R ES=wpE T Φ e Γ H (fun _ H=>QS Γ H) (fun c H=>ES c Γ H):=rfl
theorem Cj (i:Nat) (e:ME):wpS T Φ (.assign i e) Γ H QS R ES=wpE T Φ e Γ H (fun v H=>QS (Γ.set i (some v)) H) (fun c H=>ES c Γ H):=rfl
theorem Bw (e:MEo):wpS T Φ (.ret e) Γ H QS R ES=wpO T Φ e Γ H R (fun c H=>ES c Γ H):=rfl
theorem Bd (c:ME) (t f:MSs):wpS T Φ (.ite c t f) Γ H QS R ES=wpE T Φ c Γ H (fun v H=>Et v fun b=>brB b (wpSs T Φ t Γ H QS R ES) (wpSs T Φ f Γ H QS R ES)) (fun c H=>ES c Γ H):=rfl
theorem Fm (o:ME) (n:Nat) (e:ME):wpS T Φ (.setattr o n e) Γ H QS R ES=wpE T Φ e Γ H (fun v H=>wpE T Φ o Γ H (fun o H=>Wp (Bx o n v) H (fun _ H=>QS Γ H) (fun c H=>ES c Γ H)) (fun c H=>ES c Γ H)) (fun c H=>ES c Γ H):=rfl
theorem Be (o i e:ME):wpS T Φ (.setitem o i e) Γ H QS R ES=wpE T Φ e Γ H (fun v H=>wpE T Φ o Γ H (fun o H=>wpE T Φ i Γ H (fun i H=>Wp (Ax o i v) H (fun _ H=>QS Γ H) (fun c H=>ES c Γ H)) (fun c H=>ES c Γ H)) (fun c H=>ES c Γ H)) (fun c H=>ES c Γ H):=rfl
theorem J8 (c:Nat) (m:Str):wpS T Φ (.raise c m) Γ H QS R ES=(T.isExc c=true /\ ES c Γ H):=rfl
theorem Aen (T:Tab) (c:Nat) (Γ:Env') (H:Hp) (Q:Env' -> Hp -> Prop) (R:Val -> Hp -> Prop) (E:Nat -> Env' -> Hp -> Prop):WpS (if T.isExc c=true then .exc c Γ H else .bad) Q R E=(T.isExc c=true /\ E c Γ H):=by
  by_cases h:T.isExc c=true
  · rw [if_pos h];simp [h];rfl
  · rw [if_neg h];simp [h];exact fun x=>x
theorem Ct {e:ME} {Q Q':Val -> Hp -> Prop} (h:∀ v H,Q v H=Q' v H):wpE T Φ e Γ H Q E=wpE T Φ e Γ H Q' E:=congrArg (fun q=>wpE T Φ e Γ H q E) (funext fun v=>funext fun H=>h v H)
theorem Aeo {e:MEo} {Q Q':Val -> Hp -> Prop} (h:∀ v H,Q v H=Q' v H):wpO T Φ e Γ H Q E=wpO T Φ e Γ H Q' E:=congrArg (fun q=>wpO T Φ e Γ H q E) (funext fun v=>funext fun H=>h v H)
theorem Ago {m:M α} {Q Q':α -> Hp -> Prop} (h:∀ v H,Q v H=Q' v H):Wp m H Q E=Wp m H Q' E:=congrArg (fun q=>Wp m H q E) (funext fun v=>funext fun H=>h v H)
theorem Abu {o:Option α} {Q Q':α -> Prop} (h:∀ v,Q v=Q' v):Ea o Q=Ea o Q':=congrArg (Ea o) (funext h)
theorem Aep {e:MS} {Q Q':Env' -> Hp -> Prop} (h:∀ v H,Q v H=Q' v H):wpS T Φ e Γ H Q R ES=wpS T Φ e Γ H Q' R ES:=congrArg (fun q=>wpS T Φ e Γ H q R ES) (funext fun v=>funext fun H=>h v H)
end
mutual
theorem Bf (T:Tab) (Φ:Funs):∀ (e:ME) (Γ:Env') (H:Hp) (Q:Val -> Hp -> Prop) (E:Nat -> Hp -> Prop),Wp (Am T Φ e Γ) H Q E=wpE T Φ e Γ H Q E
  | .none,_,_,_,_=>rfl
  | .bool _,_,_,_,_=>rfl
  | .int _,_,_,_,_=>rfl
  | .str _,_,_,_,_=>rfl
  | .glob k,_,H,Q,E=>Za _
  | .var i,Γ,H,Q,E=>(Za _).trans (Eu Γ i fun v=>Q v H).symm
  | .bin op a b,Γ,H,Q,E=>(Aw _ _).trans ((Bf T Φ a Γ H _ E).trans ((Ct fun x H=>(Aw _ _).trans ((Bf T Φ b Γ H _ E).trans (Ct fun y H=>Xi op x y))).trans (B9 op a b).symm))
  | .neg _,_,_,_,_=>rfl
  | .not a,Γ,H,Q,E=>(Aw _ _).trans ((Bf T Φ a Γ H _ E).trans ((Ct fun x H=>(Aw _ _).trans (Hr x)).trans (Ca a).symm))
  | .and a b,Γ,H,Q,E=>(Aw _ _).trans ((Bf T Φ a Γ H _ E).trans ((Ct fun x H=>(Aw _ _).trans ((Hr x).trans (J6 _ _ _ _ (Bf T Φ b Γ H Q E) rfl))).trans (Fs a b).symm))
  | .or a b,Γ,H,Q,E=>(Aw _ _).trans ((Bf T Φ a Γ H _ E).trans ((Ct fun x H=>(Aw _ _).trans ((Hr x).trans (J6 _ _ _ _ rfl (Bf T Φ b Γ H Q E)))).trans (Du a b).symm))
  | .cmp op a b,Γ,H,Q,E=>(Aw _ _).trans ((Bf T Φ a Γ H _ E).trans ((Ct fun x H=>(Aw _ _).trans ((Bf T Φ b Γ H _ E).trans (Ct fun y H=>(Aw _ _).trans (G4 _)))).trans (A4 op a b).symm))
  | .cmp2 op1 op2 a b c,Γ,H,Q,E=>(Aw _ _).trans ((Bf T Φ a Γ H _ E).trans ((Ct fun x H=>(Aw _ _).trans ((Bf T Φ b Γ H _ E).trans (Ct fun y H=>(Aw _ _).trans ((G4 _).trans (Abt _ _ _ _ ((Aw _ _).trans ((Bf T Φ c Γ H _ E).trans (Ct fun z H=>(Aw _ _).trans (G4 _)))) rfl))))).trans (Il op1 op2 a b c).symm))
  | .sub a i,Γ,H,Q,E=>(Aw _ _).trans ((Bf T Φ a Γ H _ E).trans ((Ct fun x H=>(Aw _ _).trans (Bf T Φ i Γ H _ E)).trans (A8 a i).symm))
  | .slice a lo hi,Γ,H,Q,E=>(Aw _ _).trans ((Bf T Φ a Γ H _ E).trans ((Ct fun x H=>(Aw _ _).trans ((wpO_eq T Φ lo Γ H _ E).trans (Aeo fun l H=>(Aw _ _).trans (wpO_eq T Φ hi Γ H _ E)))).trans (Hs a lo hi).symm))
  | .tup es,Γ,H,Q,E=>(Aw _ _).trans ((wpEs_eq T Φ es Γ H _ E).trans rfl)
  | .list es,Γ,H,Q,E=>(Aw _ _).trans ((wpEs_eq T Φ es Γ H _ E).trans rfl)
  | .dict,_,_,_,_=>rfl
  | .attr a n,Γ,H,Q,E=>(Aw _ _).trans (Bf T Φ a Γ H _ E)
  | .call f es,Γ,H,Q,E=>(Aw _ _).trans (wpEs_eq T Φ es Γ H _ E)
  | .new c es,Γ,H,Q,E=>by
    have h:Am T Φ (.new c es) Γ=(match T.meth c 0 with
      | some _=>(evalEs T Φ es Γ).bnd fun vs=>Qk T Φ c vs
      | none=>M.bad):=rfl
    rw [h]
    show _=Ea (T.meth c 0) _
    cases T.meth c 0 with
    | none=>rfl
    | some k=>exact (Aw _ _).trans (wpEs_eq T Φ es Γ H _ E)
  | .umeth a m es,Γ,H,Q,E=>(Aw _ _).trans ((Bf T Φ a Γ H _ E).trans ((Ct fun o H=>(Aw _ _).trans (Ago fun k H=>(Aw _ _).trans (wpEs_eq T Φ es Γ H _ E))).trans (Cb a m es).symm))
  | .bf f es,Γ,H,Q,E=>(Aw _ _).trans (wpEs_eq T Φ es Γ H _ E)
  | .bm a m es,Γ,H,Q,E=>(Aw _ _).trans ((Bf T Φ a Γ H _ E).trans ((Ct fun o H=>(Aw _ _).trans ((G4 _).trans (Abu fun _=>(Aw _ _).trans (wpEs_eq T Φ es Γ H _ E)))).trans (Kw a m es).symm))
  | .isinst a t,Γ,H,Q,E=>(Aw _ _).trans (Bf T Φ a Γ H _ E)
  | .comp _ _ _,_,_,_,_=>rfl
theorem wpO_eq (T:Tab) (Φ:Funs):∀ (e:MEo) (Γ:Env') (H:Hp) (Q:Val -> Hp -> Prop) (E:Nat -> Hp -> Prop),Wp (evalO T Φ e Γ) H Q E=wpO T Φ e Γ H Q E
  | .none,_,_,_,_=>rfl
  | .some e,Γ,H,Q,E=>Bf T Φ e Γ H Q E
theorem wpEs_eq (T:Tab) (Φ:Funs):∀ (es:MEs) (Γ:Env') (H:Hp) (Q:List Val -> Hp -> Prop) (E:Nat -> Hp -> Prop),Wp (evalEs T Φ es Γ) H Q E=wpEs T Φ es Γ H Q E
  | .nil,_,_,_,_=>rfl
  | .cons e es,Γ,H,Q,E=>(Aw _ _).trans ((Bf T Φ e Γ H _ E).trans ((Ct fun v H=>(Aw _ _).trans (wpEs_eq T Φ es Γ H _ E)).trans (Al e es).symm))
end
mutual
theorem Zc (T:Tab) (Φ:Funs):∀ (s:MS) (Γ:Env') (H:Hp) (Q:Env' -> Hp -> Prop) (R:Val -> Hp -> Prop) (E:Nat -> Env' -> Hp -> Prop),WpS (Dg T Φ s Γ H) Q R E=wpS T Φ s Γ H Q R E
  | .expr e,Γ,H,Q,R,E=>(C4 _ _ _).trans (Bf T Φ e Γ H _ _)
  | .assign i e,Γ,H,Q,R,E=>(C4 _ _ _).trans (Bf T Φ e Γ H _ _)
  | .setattr o n e,Γ,H,Q,R,E=>(C4 _ _ _).trans ((Bf T Φ e Γ H _ _).trans ((Ct fun v H=>(C4 _ _ _).trans ((Bf T Φ o Γ H _ _).trans (Ct fun o H=>C4 _ _ _))).trans (Fm o n e).symm))
  | .setitem o i e,Γ,H,Q,R,E=>(C4 _ _ _).trans ((Bf T Φ e Γ H _ _).trans ((Ct fun v H=>(C4 _ _ _).trans ((Bf T Φ o Γ H _ _).trans (Ct fun o H=>(C4 _ _ _).trans ((Bf T Φ i Γ H _ _).trans (Ct fun i H=>C4 _ _ _))))).trans (Be o i e).symm))
  | .ret e,Γ,H,Q,R,E=>(C4 _ _ _).trans (wpO_eq T Φ e Γ H _ _)
  | .ite c t f,Γ,H,Q,R,E=>(C4 _ _ _).trans ((Aw _ _).trans ((Bf T Φ c Γ H _ _).trans ((Ct fun x H=>(Hr x).trans (J6 _ _ _ _ (wpSs_eq T Φ t Γ H Q R E) (wpSs_eq T Φ f Γ H Q R E))).trans (Bd c t f).symm)))
  | .raise c m,Γ,H,Q,R,E=>Aen T c Γ H Q R E
  | .loop _ _,_,_,_,_,_=>rfl
  | .each _ _ _,_,_,_,_,_=>rfl
  | .eachPair _ _ _ _,_,_,_,_,_=>rfl
  | .tryx _ _,_,_,_,_,_=>rfl
theorem wpSs_eq (T:Tab) (Φ:Funs):∀ (ss:MSs) (Γ:Env') (H:Hp) (Q:Env' -> Hp -> Prop) (R:Val -> Hp -> Prop) (E:Nat -> Env' -> Hp -> Prop),WpS (execSs T Φ ss Γ H) Q R E=wpSs T Φ ss Γ H Q R E
  | .nil,_,_,_,_,_=>rfl
  | .cons s ss,Γ,H,Q,R,E=>(Px _ _).trans ((Zc T Φ s Γ H _ R E).trans ((Aep fun Γ H=>wpSs_eq T Φ ss Γ H Q R E).trans (Ag s ss).symm))
end
section
variable {α β:Type} {T:Tab} {Φ:Funs} {Γ:Env'} {H:Hp}
variable {Q:Val -> Hp -> Prop} {E:Nat -> Hp -> Prop} {QS:Env' -> Hp -> Prop} {R:Val -> Hp -> Prop} {ES:Nat -> Env' -> Hp -> Prop}
theorem Pz {e:ME} {Q':Val -> Hp -> Prop} {E':Nat -> Hp -> Prop} (h:wpE T Φ e Γ H Q E) (hq:∀ a H',Q a H' -> Q' a H') (he:∀ c H',E c H' -> E' c H'):wpE T Φ e Γ H Q' E':=by
  rw [<- Bf] at h ⊢;exact h.mono hq he
theorem Ba {e:ME} {Q':Val -> Hp -> Prop} (h:wpE T Φ e Γ H Q NoE) (hq:∀ a H',Q a H' -> Q' a H'):wpE T Φ e Γ H Q' E:=Pz h hq fun _ _ f=>f.elim
theorem Xj {s:MS} {Q':Env' -> Hp -> Prop} {R':Val -> Hp -> Prop} {E':Nat -> Env' -> Hp -> Prop} (h:wpS T Φ s Γ H QS R ES) (hq:∀ Γ H',QS Γ H' -> Q' Γ H') (hr:∀ v H',R v H' -> R' v H') (he:∀ c Γ H',ES c Γ H' -> E' c Γ H'):wpS T Φ s Γ H Q' R' E':=by
  rw [<- Zc] at h ⊢;exact h.mono hq hr he
theorem Ud {s:MSs} {Q':Env' -> Hp -> Prop} {R':Val -> Hp -> Prop} {E':Nat -> Env' -> Hp -> Prop} (h:wpSs T Φ s Γ H QS R ES) (hq:∀ Γ H',QS Γ H' -> Q' Γ H') (hr:∀ v H',R v H' -> R' v H') (he:∀ c Γ H',ES c Γ H' -> E' c Γ H'):wpSs T Φ s Γ H Q' R' E':=by
  rw [<- wpSs_eq] at h ⊢;exact h.mono hq hr he
theorem Ap {d k:Nat} {g:MFun} {args:List Val} (h:T.funs[k]?=some g) (ha:args.length=g.arity) :
    Wp (Af T (d+1) k args) H Q E=wpSs T (Af T d) g.body (args.map some++List.replicate g.nvars none) H (fun _ H'=>Q .none H') Q (fun c _ H'=>E c H'):=by
  rw [<- wpSs_eq]
  unfold Wp
  rw [Abs h ha]
  cases execSs T (Af T d) g.body (args.map some++List.replicate g.nvars none) H <;> rfl
theorem Abv {body:MSs} {hs:MHs} (h:wpSs T Φ body Γ H QS R (fun c Γ H=>WpS (execH T Φ hs c Γ H) QS R ES)):wpS T Φ (.tryx body hs) Γ H QS R ES:=by
  rw [<- wpSs_eq] at h
  show WpS (match execSs T Φ body Γ H with
    | .exc c Γ' H'=>execH T Φ hs c Γ' H'
    | r=>r) QS R ES
  generalize execSs T Φ body Γ H=r at h
  cases r <;> exact h
theorem C1 {i:Nat} {it:ME} {body:MSs} (h:wpE T Φ it Γ H (fun v H=>Ea (Cr v H) fun p=>WpS (Ff (chk p.2 p.1) (N5 i) (execSs T Φ body) p.1 Γ H) QS R ES) (fun c H=>ES c Γ H)):wpS T Φ (.each i it body) Γ H QS R ES:=by
  rw [<- Bf] at h
  refine ((C4 _ _ _).trans ?_).mpr h
  simp only [C4,G4]
theorem Ni {i j:Nat} {it:ME} {body:MSs} (h:wpE T Φ it Γ H (fun v H=>Ea (Jr v H) fun p=>WpS (Ff (chk (some p.2) p.1) (Aab i j) (execSs T Φ body) p.1 Γ H) QS R ES) (fun c H=>ES c Γ H)):wpS T Φ (.eachPair i j it body) Γ H QS R ES:=by
  rw [<- Bf] at h
  refine ((C4 _ _ _).trans ?_).mpr h
  simp only [C4,G4]
theorem J9 {chk:Hp -> Bool} {bind:Val -> Env' -> Option Env'} {body:MSs} (I:List Val -> Env' -> Hp -> Prop) :
    ∀ (xs:List Val) (Γ:Env') (H:Hp),I xs Γ H -> (∀ Γ H,I [] Γ H -> QS Γ H) -> (∀ ys Γ H,I ys Γ H -> chk H=true) ->
    (∀ x ys Γ H,I (x :: ys) Γ H -> ∃ Γ',bind x Γ=some Γ' /\ wpSs T Φ body Γ' H (I ys) R ES) -> WpS (Ff chk bind (execSs T Φ body) xs Γ H) QS R ES
  | [],Γ,H,h,hd,hc,_=>by
    rw [Mx,if_pos (hc _ _ _ h)];exact hd _ _ h
  | x :: xs,Γ,H,h,hd,hc,hs=>by
    rw [Ky,if_pos (hc _ _ _ h)]
    refine ex1 (hs _ _ _ _ h) fun Γ' zz=>Ad zz fun e w=>?_
    rw [e]
    rw [<- wpSs_eq] at w
    rw [Px]
    exact w.mono (fun Γ H h=>J9 I xs Γ H h hd hc hs) (fun _ _ h=>h) (fun _ _ _ h=>h)
theorem B6 {chk:Hp -> Bool} {bind:Val -> Env' -> Option Env'} {body:MSs} {xs:List Val} (I:Nat -> Env' -> Hp -> Prop)
    (h0:I 0 Γ H) (hd:∀ Γ H,I xs.length Γ H -> QS Γ H) (hc:∀ k Γ H,k <= xs.length -> I k Γ H -> chk H=true)
    (hs:∀ k x Γ H,xs[k]?=some x -> I k Γ H -> ∃ Γ',bind x Γ=some Γ' /\ wpSs T Φ body Γ' H (I (k+1)) R ES):WpS (Ff chk bind (execSs T Φ body) xs Γ H) QS R ES:=by
  refine J9 (fun ys Γ H=>∃ k,ys=xs.drop k /\ k <= xs.length /\ I k Γ H) xs Γ H ⟨0,rfl,Nat.zero_le _,h0⟩ ?_ ?_ ?_
  · intro Γ H zz
    refine ex1 zz fun k zz=>Av zz fun e l h=>?_
    have:k=xs.length:=by
      have:=congrArg List.length e
      simp at this;exact o50 this l
    subst this;exact hd _ _ h
  · intro ys Γ H zz
    refine ex1 zz fun k zz=>Av zz fun e l h=>?_
    exact hc k Γ H l h
  · intro x ys Γ H zz
    refine ex1 zz fun k zz=>Av zz fun e l h=>?_
    have hx:xs[k]?=some x:=by
      have:=congrArg (fun z=>z[0]?) e
      simpa using this.symm
    have lt:=(List.getElem?_eq_some_iff.mp hx).1
    refine ex1 (hs k x Γ H hx h) fun Γ' zz=>Ad zz fun hb w=>?_
    refine ⟨Γ',hb,Ud w ?_ (fun _ _ h=>h) (fun _ _ _ h=>h)⟩
    intro Γ H h
    refine ⟨k+1,?_,lt,h⟩
    have:=congrArg List.tail e
    simpa using this
theorem P0 {chk:Hp -> Bool} {step:Val -> M (Option Val)} {Q:List Val -> Hp -> Prop} (I:List Val -> List Val -> Hp -> Prop) :
    ∀ (xs:List Val) (out:List Val) (H:Hp),I xs out H -> (∀ ys out H,I ys out H -> chk H=true) ->
    (∀ x ys out H,I (x :: ys) out H -> Wp (step x) H (fun r H=>I ys (out++r.toList) H) E) ->
    (∀ zs H,I [] (out++zs) H -> Q zs H) -> Wp (Fe chk step xs) H Q E
  | [],out,H,h,hc,_,hd=>by
    have:Fe chk step [] H=.ok [] H:=by
      exact if_pos (hc _ _ _ h)
    exact Wp.of_eq this (hd [] H (by simpa using h))
  | x :: xs,out,H,h,hc,hs,hd=>by
    have:Fe chk step (x :: xs) H=((step x).bnd fun r=>(Fe chk step xs).bnd fun ys=>.ret (match r with | some y=>y :: ys | none=>ys)) H:=by
      exact if_pos (hc _ _ _ h)
    unfold Wp;rw [this]
    show Wp _ H Q E
    rw [Aw]
    refine (hs _ _ _ _ h).mono ?_ (fun _ _ h=>h)
    intro r H h
    rw [Aw]
    simp only [Nh]
    refine P0 I xs _ H h hc hs ?_
    intro zs H h
    refine hd _ H ?_
    cases r with
    | none=>simpa using h
    | some y=>simpa using h
theorem Xk {Q:α -> Hp -> Prop} {m:M α} (h:Wp m H Q NoE):Wp (M.quiet m) H Q E:=by
  unfold Wp at h ⊢
  unfold M.quiet
  cases hm:m H with
  | ok a H'=>rw [hm] at h;exact h
  | exc c H'=>rw [hm] at h;exact h.elim
  | bad=>rw [hm] at h;exact h.elim
theorem Ka {elt it:ME} {cond:MEo} (h:wpE T Φ it Γ H (fun v H=>Ea (Cr v H) fun p =>
    Wp (Fe (chk p.2 p.1) (fun x=>(evalC T Φ cond (Γ++[some x])).bnd fun b=>match b with
        | true=>(Am T Φ elt (Γ++[some x])).bnd fun y=>.ret (some y)
        | false=>.ret none) p.1) H (fun ys H=>ys.length < lid /\ Q (.loc H.length) (H++[.list ys])) NoE) E):wpE T Φ (.comp elt it cond) Γ H Q E:=by
  rw [<- Bf] at h ⊢
  refine (Aw _ _).mpr (h.mono ?_ (fun _ _ h=>h))
  intro v H h
  rw [Aw,G4]
  cases hp:Cr v H with
  | none=>rw [hp] at h;exact h
  | some p =>
  rw [hp] at h
  show Wp _ _ _ _
  rw [Aw]
  refine Xk (Wp.mono h ?_ (fun _ _ h=>h))
  rintro ys H ⟨hl,q⟩
  rw [if_pos hl];exact q
theorem Mf {elt:ME} {Q:Option Val -> Hp -> Prop} (h:wpE T Φ elt Γ H (fun y H=>Q (some y) H) E) :
    Wp ((evalC T Φ .none Γ).bnd fun b=>match b with
        | true=>(Am T Φ elt Γ).bnd fun y=>M.ret (some y)
        | false=>.ret none) H Q E:=by
  rw [<- Bf] at h
  exact (Aw _ _).mpr (show Wp _ H Q E from (Aw _ _).mpr h)
theorem wp_step {elt c:ME} {Q:Option Val -> Hp -> Prop} (h:wpE T Φ c Γ H (fun v H=>Et v fun b=>brB b (wpE T Φ elt Γ H (fun y H=>Q (some y) H) E) (Q none H)) E) :
    Wp ((evalC T Φ (.some c) Γ).bnd fun b=>match b with
        | true=>(Am T Φ elt Γ).bnd fun y=>M.ret (some y)
        | false=>.ret none) H Q E:=by
  simp only [<- Bf] at h
  rw [Aw]
  refine (Aw _ _).mpr (h.mono ?_ (fun _ _ h=>h))
  intro v H h
  cases v with
  | bool b =>
    cases b with
    | true=>exact (Aw _ _).mpr h
    | false=>exact h
  | _=>exact h
end
section
variable {T:Tab} {Φ:Funs} {Γ:Env'} {H:Hp}
variable {Q:Val -> Hp -> Prop} {E:Nat -> Hp -> Prop}
theorem Gb (x y:Int):Ja .add (.int x) (.int y) H Q E=Q (.int (x+y)) H:=rfl
theorem Nj (x y:Int):Ja .sub (.int x) (.int y) H Q E=Q (.int (x - y)) H:=rfl
theorem Kb (x y:Int):Ja .mul (.int x) (.int y) H Q E=((Eo x || Eo y)=true /\ Q (.int (x * y)) H):=rfl
theorem G5 (x y:Int):Ja .fdiv (.int x) (.int y) H Q E=(¬ (y=0 \/ 1073741824 <= y.natAbs) /\ Q (.int (Int.fdiv x y)) H):=rfl
theorem Kc (x y:Int):Ja .mod (.int x) (.int y) H Q E=(¬ (y=0) /\ Q (.int (Int.fmod x y)) H):=rfl
theorem Ht (n:Int):Wp (bfV .range [.int n]) H Q E=((-1073741824 <= n /\ n <= 1073741824) /\ Q (.rng n) H):=Zb _ _
theorem Ck (ns:List Int):Wp (bfV .len [.script ns]) H Q E=Q (.int ns.length) H:=by rw [Me,Nh]
theorem C7 (xs:List Val):Wp (bfV .len [.tup xs]) H Q E=Q (.int xs.length) H:=rfl
theorem A2 {l:Nat} {xs:List Val} (h:H[l]?=some (.list xs)):Wp (bfV .len [.loc l]) H Q E=Q (.int xs.length) H:=by
  unfold Wp;rw [Rj h]
theorem Ov (a b:Int):Wp (bfV .max2 [.int a,.int b]) H Q E=Q (.int (if b > a then b else a)) H:=rfl
theorem Xl (n:Nat) (i:Int):A6 H n (.int i)=some (.int i):=by cases n <;> rfl
theorem Ue (n:Nat):A6 H n .none=some .none:=by cases n <;> rfl
theorem Ow (x y:Int) (k:Bool -> Prop):Ea (Dy .eq (.int x) (.int y) H) k=k (decide (x=y)):=rfl
theorem Mg (x y:Int) (k:Bool -> Prop):Ea (Dy .ne (.int x) (.int y) H) k=k (!decide (x=y)):=rfl
theorem Uf (x y:Bool) (k:Bool -> Prop):Ea (Dy .ne (.bool x) (.bool y) H) k=k (!decide (x=y)):=rfl
theorem Ox (x y:Int) (k:Bool -> Prop):Ea (Dy .lt (.int x) (.int y) H) k=k (decide (x < y)):=rfl
theorem Ug (x y:Int) (k:Bool -> Prop):Ea (Dy .gt (.int x) (.int y) H) k=k (decide (y < x)):=rfl
theorem Uh (x y:Int) (k:Bool -> Prop):Ea (Dy .le (.int x) (.int y) H) k=k (decide (x <= y)):=rfl
theorem Do (k:Bool -> Prop):Ea (Dy .is .none .none H) k=k true:=rfl
theorem Cl (i:Int) (k:Bool -> Prop):Ea (Dy .is (.int i) .none H) k=k false:=rfl
theorem Di (k:Bool -> Prop):Ea (Dy .isNot .none .none H) k=k false:=rfl
theorem C2 (i:Int) (k:Bool -> Prop):Ea (Dy .isNot (.int i) .none H) k=k true:=rfl
theorem Aeq (v:Val) (t:Ty) (k:Kd) (h:Pc H v=some k) (ht:∀ c,t≠.cls c):Wp (Bh T v t) H Q E=Q (.bool (Ys t k)) H:=by
  have e:Bh T v t H=.ok (.bool (Ys t k)) H:=by
    unfold Bh;rw [Dh]
    cases t with
    | cls c=>exact absurd rfl (ht c)
    | _=>dsimp only;rw [h];rfl
  unfold Wp;rw [e]
theorem Ec (i:Int):Wp (Bh T (.int i) .int) H Q E=Q (.bool true) H:=rfl
theorem Dj (i:Int):Wp (Bh T (.int i) .bool) H Q E=Q (.bool false) H:=rfl
theorem Im (i:Int):Wp (Bh T (.int i) .tuple) H Q E=Q (.bool false) H:=rfl
theorem G6 (i:Int):Wp (Bh T (.int i) .list) H Q E=Q (.bool false) H:=rfl
theorem G7 (i:Bool):Wp (Bh T (.bool i) .int) H Q E=Q (.bool true) H:=rfl
theorem Gc (i:Bool):Wp (Bh T (.bool i) .bool) H Q E=Q (.bool true) H:=rfl
theorem G8 (i:Bool):Wp (Bh T (.bool i) .tuple) H Q E=Q (.bool false) H:=rfl
theorem G9:Wp (Bh T .none .tuple) H Q E=Q (.bool false) H:=rfl
theorem Ha:Wp (Bh T .none .int) H Q E=Q (.bool false) H:=rfl
theorem Io (s:Str):Wp (Bh T (.str s) .tuple) H Q E=Q (.bool false) H:=rfl
theorem Ip (s:Str):Wp (Bh T (.str s) .int) H Q E=Q (.bool false) H:=rfl
theorem Dk (xs:List Val):Wp (Bh T (.tup xs) .tuple) H Q E=Q (.bool true) H:=rfl
theorem Iq (xs:List Val):Wp (Bh T (.tup xs) .int) H Q E=Q (.bool false) H:=rfl
theorem Ui (l:Nat) (xs:List Val) (h:H[l]?=some (.list xs)):Wp (Bh T (.loc l) .list) H Q E=Q (.bool true) H :=
  Aeq _ _ .list (Ads h) (by intro c h;cases h)
theorem Ke (l:Nat) (xs:List Val) (h:H[l]?=some (.list xs)):Wp (Bh T (.loc l) .tuple) H Q E=Q (.bool false) H :=
  Aeq _ _ .list (Ads h) (by intro c h;cases h)
theorem Ez (x:Val) (xs:List Val):Wp (C5 (.tup (x :: xs)) (.int 0)) H Q E=Q x H:=rfl
theorem D3 (x y:Val) (xs:List Val):Wp (C5 (.tup (x :: y :: xs)) (.int 1)) H Q E=Q y H:=rfl
theorem Oy (x y z:Val) (xs:List Val):Wp (C5 (.tup (x :: y :: z :: xs)) (.int 2)) H Q E=Q z H:=rfl
theorem Uj (k n:Nat) (h:k < n):Cp (k:Int) n=some k:=by
  unfold Cp
  rw [if_pos (by exact o48),if_pos (by exact o49 h)];rfl
theorem Nk (k:Int) (n:Nat) (h0:0 <= k) (h:k < n):Cp k n=some k.toNat:=by
  unfold Cp
  rw [if_pos h0,if_pos h]
theorem Oz {l:Nat} {xs:List Val} (h:H[l]?=some (.list xs)) {k:Int} {v:Val} (h0:0 <= k) (hk:xs[k.toNat]?=some v) (q:Q v H):Wp (C5 (.loc l) (.int k)) H Q E:=by
  have lt:=(List.getElem?_eq_some_iff.mp hk).1
  refine Wp.of_eq ?_ q
  unfold C5;rw [Dh]
  simp only [h,Nk k xs.length h0 (by exact o14 h0 lt),Option.bind_some,hk]
theorem Fn {l:Nat} {xs:List Val} (h:H[l]?=some (.list xs)):E2 .append (.loc l) H=some ():=if_pos (Jw h)
theorem Gk {l:Nat} {xs:List Val} (h:H[l]?=some (.list xs)):E2 .clear (.loc l) H=some ():=if_pos (Jw h)
theorem Xm {l:Nat} {xs:List Val} (h:H[l]?=some (.list xs)):E2 .pop (.loc l) H=some ():=if_pos (Jw h)
theorem Hu {l:Nat} {xs:List Val} {v:Val} (h:H[l]?=some (.list xs)) (hl:xs.length < lid) (q:Q .none (H.set l (.list (xs++[v])))):Wp (bmV .append (.loc l) [v]) H Q E:=by
  refine Wp.of_eq ?_ q
  unfold bmV;simp only [h]
  exact if_pos hl
theorem Jf {l:Nat} {xs:List Val} (h:H[l]?=some (.list xs)) (q:Q .none (H.set l (.list []))):Wp (bmV .clear (.loc l) []) H Q E:=by
  refine Wp.of_eq ?_ q
  unfold bmV;simp only [h]
theorem Aer {l:Nat} {xs:List Val} {v:Val} (h:H[l]?=some (.list xs)) (hv:xs.getLast?=some v) (q:Q v (H.set l (.list xs.dropLast))):Wp (bmV .pop (.loc l) []) H Q E:=by
  refine Wp.of_eq ?_ q
  unfold bmV;simp only [h,hv]
theorem E8 {i:Nat} {e:ME} {l:Nat} {xs:List Val} (hi:Γ[i]?=some (some (.loc l))) (h:H[l]?=some (.list xs))
    (q:wpE T Φ e Γ H (fun v H'=>∃ ys,H'[l]?=some (.list ys) /\ ys.length < lid /\ Q .none (H'.set l (.list (ys++[v])))) E):wpE T Φ (.bm (.var i) .append (.cons e .nil)) Γ H Q E:=by
  rw [Kw,Az]
  rw [Eu,hi]
  show Ea (E2 _ _ _) _
  rw [Fn h]
  refine Pz q ?_ (fun _ _ h=>h)
  intro v H' zz
  refine ex1 zz fun ys zz=>Av zz fun hy hl q=>?_
  exact Hu hy hl q
end
noncomputable def Ext (H H':Hp):Prop:=∃ K,H'=H++K
theorem Ext.refl (H:Hp):Ext H H:=⟨[],by simp⟩
theorem Ext.trans {H H1 H2:Hp}:Ext H H1 -> Ext H1 H2 -> Ext H H2
  | ⟨K,e⟩,⟨L,f⟩=>⟨K++L,by rw [f,e,List.append_assoc]⟩
theorem Ext.new {H H':Hp} (h:Ext H H') (o:HObj):Ext H (H'++[o]):=h.trans ⟨[o],rfl⟩
theorem Ext.get {H H':Hp} (h:Ext H H') {l:Nat} {o:HObj} (g:H[l]?=some o):H'[l]?=some o:=by
  obtain ⟨K,rfl⟩:=h
  rw [List.getElem?_append_left (List.getElem?_eq_some_iff.mp g).1];exact g
theorem Ext.len {H H':Hp} (h:Ext H H'):H.length <= H'.length:=by
  obtain ⟨K,rfl⟩:=h;simp
theorem Ext.set {H H':Hp} (h:Ext H H') {l:Nat} (hl:H.length <= l) (o:HObj):Ext H (H'.set l o):=by
  obtain ⟨K,rfl⟩:=h
  exact ⟨K.set (l - H.length) o,by rw [List.set_append_right _ _ hl]⟩
theorem Aj (H:Hp) (o:HObj):(H++[o])[H.length]?=some o:=by simp
theorem Bq {H:Hp} {l:Nat} {o:HObj} (g:H[l]?=some o):l < H.length:=(List.getElem?_eq_some_iff.mp g).1
theorem Bb {H:Hp} {l:Nat} {o:HObj} (o':HObj) (g:H[l]?=some o):(H.set l o')[l]?=some o':=by
  rw [List.getElem?_set_self (Bq g)]
theorem Ao {H:Hp} {l m:Nat} {o:HObj} (o':HObj) (hne:l≠m) (g:H[m]?=some o):(H.set l o')[m]?=some o:=by
  rw [List.getElem?_set_ne hne];exact g
theorem Bk {H:Hp} {l:Nat} {xs:List Val} (h:H[l]?=some (.list xs)):chk (some l) xs H=true:=by
  exact Adr h
theorem Bc {H:Hp} {l:Nat} {xs:List Val} (h:H[l]?=some (.list xs)):Cr (.loc l) H=some (xs,some l):=Sc h
theorem O0 {H:Hp} {l:Nat} {xs:List Val} (h:H[l]?=some (.list xs)):Jr (.loc l) H=some (xs,l):=Sa h
noncomputable def V0 (n:Int):List Val:=(List.range n.toNat).map (fun (k:Nat)=>.int (k:Int))
theorem P1 {n:Int} {k:Nat} {x:Val} (h:(V0 n)[k]?=some x):x=.int k /\ (k:Int) < n:=by
  unfold V0 at h
  rw [List.getElem?_map] at h
  cases e:(List.range n.toNat)[k]? with
  | none=>rw [e] at h;exact nomatch h
  | some j =>
    rw [e] at h
    obtain ⟨lt,g⟩:=List.getElem?_eq_some_iff.mp e
    simp at g lt h
    subst g
    exact ⟨h.symm,by omega⟩
theorem P2 (n:Int):(V0 n).length=n.toNat:=by simp [V0]
section
variable {T:Tab} {Φ:Funs} {Γ:Env'} {H:Hp} {QS:Env' -> Hp -> Prop} {R:Val -> Hp -> Prop} {ES:Nat -> Env' -> Hp -> Prop}
theorem Ce {s:MS} {ss:MSs} (P:Env' -> Hp -> Prop) (h:wpS T Φ s Γ H P R ES) (q:∀ Γ H,P Γ H -> wpSs T Φ ss Γ H QS R ES):wpSs T Φ (.cons s ss) Γ H QS R ES:=by
  skip;exact Xj h q (fun _ _ h=>h) (fun _ _ _ h=>h)
theorem Ak {i:Nat} {e:ME} {ss:MSs} (P:Val -> Hp -> Prop) (h:wpE T Φ e Γ H P NoE) (q:∀ v H,P v H -> wpSs T Φ ss (Γ.set i (some v)) H QS R ES):wpSs T Φ (.cons (.assign i e) ss) Γ H QS R ES:=by
  skip;exact Ba h q
theorem Db {e:ME} {ss:MSs} (P:Hp -> Prop) (h:wpE T Φ e Γ H (fun _ H=>P H) NoE) (q:∀ H,P H -> wpSs T Φ ss Γ H QS R ES):wpSs T Φ (.cons (.expr e) ss) Γ H QS R ES:=by
  skip;exact Ba h (fun _=>q)
theorem E9 {c:ME} {t ss:MSs} (P:Hp -> Prop) (h:wpE T Φ c Γ H (fun v H=>v=.bool false /\ P H) NoE) (q:∀ H,P H -> wpSs T Φ ss Γ H QS R ES):wpSs T Φ (.cons (.ite c t .nil) ss) Γ H QS R ES:=by
  refine Ba h ?_
  rintro v H ⟨rfl,p⟩
  exact q H p
theorem Abw {c:ME} {t f ss:MSs} (P:Hp -> Prop) (h:wpE T Φ c Γ H (fun v H=>v=.bool true /\ P H) NoE) (q:∀ H,P H -> wpSs T Φ t Γ H (fun Γ H=>wpSs T Φ ss Γ H QS R ES) R ES):wpSs T Φ (.cons (.ite c t f) ss) Γ H QS R ES:=by
  refine Ba h ?_
  rintro v H ⟨rfl,p⟩
  exact q H p
theorem Em {i:Nat} {e:ME} {body:MSs} {n:Int} (I:Nat -> Env' -> Hp -> Prop)
    (he:wpE T Φ e Γ H (fun v H'=>v=.int n /\ H'=H) NoE) (hn:-1073741824 <= n /\ n <= 1073741824) (h0:I 0 Γ H)
    (hs:∀ (k:Nat) Γ H,(k:Int) < n -> I k Γ H -> wpSs T Φ body (Γ.set i (some (.int k))) H (I (k+1)) R ES)
    (hd:∀ Γ H,I n.toNat Γ H -> QS Γ H):wpS T Φ (.each i (.bf .range (.cons e .nil)) body) Γ H QS R ES:=by
  apply C1
  rw [E7,Al]
  refine Ba he ?_
  rintro v H' ⟨rfl,rfl⟩
  rw [A5,Ht]
  refine ⟨hn,?_⟩
  show WpS (Ff (chk none (V0 n)) _ _ (V0 n) _ _) _ _ _
  refine B6 I h0 ?_ (fun _ _ _ _ _=>rfl) ?_
  · rw [P2];exact hd
  · intro k x Γ H hx hi
    obtain ⟨hr0,lt⟩:=P1 hx;refine Eq.symm hr0▸?_
    exact ⟨_,rfl,hs k Γ H lt hi⟩
end
section
variable {T:Tab} {Φ:Funs} {Γ:Env'} {H:Hp} {QS:Env' -> Hp -> Prop} {R:Val -> Hp -> Prop} {ES:Nat -> Env' -> Hp -> Prop}
theorem Uk {c d i:Nat} {body:MSs} {hs:MHs} (h0:(T.isExc c && T.isExc d && calmSs (Fr T) body)=true) (h1:T.sub c d=true) (h:wpSs T Φ body (Γ.set i (some (.exc c))) H (fun _ _=>False) R NoX):WpS (execH T Φ (.cons d (some i) body hs) c Γ H) QS R ES:=by
  rw [<- wpSs_eq] at h
  show WpS (if (T.isExc c && T.isExc d && calmSs (Fr T) body)=false then .bad else if T.sub c d=true then _ else _) QS R ES
  rw [h0,if_neg (by decide),if_pos h1]
  show WpS (match execSs T Φ body (Γ.set i (some (.exc c))) H with
      | .ret v H'=>.ret v H'
      | _=>.bad) QS R ES
  generalize execSs T Φ body (Γ.set i (some (.exc c))) H=r at h
  cases r <;> exact h
end
end Mine.Internal.Pure
namespace Mine.Internal.Pile
section
variable {α:Type}
structure Ord (lt:α -> α -> Bool):Prop where
  asym:∀ a b,lt a b=true -> lt b a=false
  tr:∀ a b c,lt b a=false -> lt c b=false -> lt c a=false
variable {lt:α -> α -> Bool}
theorem Ord.irr (o:Ord lt) (a:α):lt a a=false:=by
  cases h:lt a a with
  | false=>rfl
  | true=>have:=o.asym a a h;rw [h] at this;cases this
noncomputable def par (i:Nat):Nat:=(i - 1) / 2
theorem Gd {i:Nat} (h:0 < i):par i < i:=by unfold par;exact o51 h
noncomputable def Aes (lt:α -> α -> Bool) (h:List α) (i:Nat):Prop:=∀ x y,h[i]?=some x -> h[par i]?=some y -> lt x y=false
noncomputable def Bt (lt:α -> α -> Bool) (h:List α):Prop:=∀ i,0 < i -> Aes lt h i
noncomputable def Xn (h:List α) (i j:Nat) (a b:α):List α:=(h.set i b).set j a
theorem Mh (h:List α) (i j:Nat) (a b:α):(Xn h i j a b).length=h.length:=by simp [Xn]
theorem P3 {h:List α} {i j:Nat} {a b:α} (hi:h[i]?=some a) (hj:h[j]?=some b) (k:Nat):(Xn h i j a b)[k]?=if k=j then some a else if k=i then some b else h[k]?:=by
  have li:=(List.getElem?_eq_some_iff.mp hi).1
  have lj:=(List.getElem?_eq_some_iff.mp hj).1
  unfold Xn
  by_cases e:k=j
  · refine Eq.symm e▸?_;rw [List.getElem?_set_self (by simpa using lj),if_pos rfl]
  · rw [List.getElem?_set_ne (fun q=>e q.symm),if_neg e]
    by_cases e2:k=i
    · refine Eq.symm e2▸?_;rw [List.getElem?_set_self li,if_pos rfl]
    · rw [List.getElem?_set_ne (fun q=>e2 q.symm),if_neg e2]
theorem Nl {h:List α} {i j:Nat} {a b:α} (hi:h[i]?=some a) (hj:h[j]?=some b):(Xn h i j a b).Perm h:=by
  obtain ⟨li,hr0⟩:=List.getElem?_eq_some_iff.mp hi;refine hr0▸?_
  obtain ⟨lj,rfl⟩:=List.getElem?_eq_some_iff.mp hj
  exact List.set_set_perm li lj
structure Up (lt:α -> α -> Bool) (h:List α) (at':Nat):Prop where
  rest:∀ i,0 < i -> i≠at' -> Aes lt h i
  over:0 < at' -> ∀ c,0 < c -> par c=at' -> ∀ x y,h[c]?=some x -> h[par at']?=some y -> lt x y=false
theorem Up.done {h:List α} {k:Nat} (u:Up lt h k) (e:k=0 \/ Aes lt h k):Bt lt h:=by
  intro i hi
  by_cases q:i=k
  · subst q;rcases e with e | e
    · exact (o52 hi e).elim
    · exact e
  · exact u.rest i hi q
theorem Up.put {h:List α} (p:Bt lt h) (v:α):Up lt (h++[v]) h.length:=by
  refine ⟨fun i hi ne x y hx hy=>?_,fun _ c hc e x y hx _=>?_⟩
  · have li:i < (h++[v]).length:=(List.getElem?_eq_some_iff.mp hx).1
    simp at li
    have:=Gd hi
    rw [List.getElem?_append_left (by omega)] at hx hy
    exact p i hi x y hx hy
  · have li:c < (h++[v]).length:=(List.getElem?_eq_some_iff.mp hx).1
    simp at li
    have:=Gd hc
    exact (o53 li this e).elim
theorem Up.step (o:Ord lt) {h:List α} {k:Nat} {a b:α} (hk:0 < k) (u:Up lt h k) (ha:h[k]?=some a) (hb:h[par k]?=some b) (l:lt a b=true):Up lt (Xn h (par k) k b a) (par k):=by
  have g:=P3 hb ha
  have pk:=Gd hk
  refine ⟨fun i hi ne x y hx hy=>?_,fun h0 c hc e x y hx hy=>?_⟩
  · rw [g] at hx hy
    by_cases q:i=k
    · subst q
      rw [if_pos rfl] at hx;cases hx
      rw [if_neg (by exact o54 pk),if_pos rfl] at hy;cases hy
      exact o.asym _ _ l
    · rw [if_neg q,if_neg ne] at hx
      by_cases q1:par i=k
      · rw [if_pos q1] at hy;cases hy
        exact u.over hk i hi q1 x b hx hb
      · rw [if_neg q1] at hy
        by_cases q2:par i=par k
        · rw [if_pos q2] at hy;cases hy
          have:=u.rest i hi q x b hx (by rw [q2];exact hb)
          exact o.tr _ _ _ (o.asym _ _ l) this
        · rw [if_neg q2] at hy
          exact u.rest i hi q x y hx hy
  · rw [g] at hx hy
    have p2:=Gd h0
    rw [if_neg (by exact o55 pk p2 e),if_neg (by exact o56 p2 e)] at hy
    have top:=u.rest (par k) h0 (by exact o57 pk e) b y hb hy
    by_cases q:c=k
    · subst q
      rw [if_pos rfl] at hx;cases hx
      exact top
    · have pc:=Gd hc
      rw [if_neg q,if_neg (by exact o58 pc e)] at hx
      have:=u.rest c hc q x b hx (by rw [e];exact hb)
      exact o.tr _ _ _ top this
theorem Bt.least (o:Ord lt) {h:List α} (p:Bt lt h) {m:α} (hm:h[0]?=some m):∀ (i:Nat) (x:α),h[i]?=some x -> lt x m=false:=by
  intro i
  induction i using Nat.strongRecOn with
  | ind i ih =>
    intro x hx
    by_cases q:i=0
    · subst q;rw [hm] at hx;cases hx;exact o.irr m
    · have pl:=Gd (Nat.pos_of_ne_zero q)
      have li:=(List.getElem?_eq_some_iff.mp hx).1
      have hy:h[par i]?=some h[par i]:=List.getElem?_eq_getElem (by exact o59 pl li)
      exact o.tr _ _ _ (ih _ pl _ hy) (p i (Nat.pos_of_ne_zero q) x _ hx hy)
structure Down (lt:α -> α -> Bool) (h:List α) (at':Nat):Prop where
  rest:∀ i,0 < i -> par i≠at' -> Aes lt h i
  over:0 < at' -> ∀ c,0 < c -> par c=at' -> ∀ x y,h[c]?=some x -> h[par at']?=some y -> lt x y=false
theorem Down.done {h:List α} {k:Nat} (u:Down lt h k) (e:∀ c,0 < c -> par c=k -> Aes lt h c):Bt lt h:=by
  intro i hi
  by_cases q:par i=k
  · exact e i hi q
  · exact u.rest i hi q
theorem Down.top {h:List α} (p:Bt lt h) (v:α):Down lt (h.set 0 v) 0:=by
  refine ⟨fun i hi ne x y hx hy=>?_,fun h0=>absurd h0 (Nat.lt_irrefl _)⟩
  rw [List.getElem?_set_ne (by exact o60 hi)] at hx
  rw [List.getElem?_set_ne (fun q=>ne q.symm)] at hy
  exact p i hi x y hx hy
theorem Down.step (o:Ord lt) {h:List α} {k s:Nat} {a b:α} (u:Down lt h k) (hs:0 < s) (e:par s=k) (ha:h[k]?=some a) (hb:h[s]?=some b) (l:lt b a=true)
    (other:∀ c,0 < c -> par c=k -> ∀ x,h[c]?=some x -> lt x b=false):Down lt (Xn h k s a b) s:=by
  have g:=P3 ha hb
  have ps:=Gd hs
  refine ⟨fun i hi ne x y hx hy=>?_,fun h0 c hc e2 x y hx hy=>?_⟩
  · rw [g] at hx hy
    rw [if_neg ne] at hy
    by_cases q:i=s
    · subst q
      rw [if_pos rfl] at hx;cases hx
      rw [if_pos e] at hy;cases hy
      exact o.asym _ _ l
    · rw [if_neg q] at hx
      by_cases q1:i=k
      · subst q1
        rw [if_pos rfl] at hx;cases hx
        have:=Gd hi
        rw [if_neg (by exact o54 this)] at hy
        exact u.over hi s hs e b y hb hy
      · rw [if_neg q1] at hx
        by_cases q2:par i=k
        · rw [if_pos q2] at hy;cases hy
          exact other i hi q2 x hx
        · rw [if_neg q2] at hy
          exact u.rest i hi q2 x y hx hy
  · rw [g] at hx hy
    have pc:=Gd hc
    rw [e,if_neg (by exact o61 ps e e2),if_pos rfl] at hy;cases hy
    rw [if_neg (by exact o58 pc e2),if_neg (by exact o62 ps pc e e2)] at hx
    exact u.rest c hc (by exact o63 ps e e2) x b hx (by rw [e2];exact hb)
end
end Mine.Internal.Pile
namespace Mine.Internal
open PySem
noncomputable def Rl:MFun:=⟨3,0,(.cons (.ite (.or (.not (.isinst (.var 0) .int)) (.isinst (.var 0) .bool)) (.cons (.ret (.some (.bool false))) .nil) .nil) (.cons (.ret (.some (.cmp2 .le .le (.var 1) (.var 0) (.var 2)))) .nil))⟩
noncomputable def O1:MFun:=⟨3,0,(.cons (.ite (.or (.not (.isinst (.var 2) .tuple)) (.cmp .ne (.bf .len (.cons (.var 2) .nil)) (.int 2))) (.cons (.ret (.some (.bool false))) .nil) .nil) (.cons (.ret (.some (.and (.call 0 (.cons (.sub (.var 2) (.int 0)) (.cons (.int 0) (.cons (.bin .sub (.var 0) (.int 1)) .nil)))) (.call 0 (.cons (.sub (.var 2) (.int 1)) (.cons (.int 0) (.cons (.bin .sub (.var 1) (.int 1)) .nil))))))) .nil))⟩
noncomputable def Abx:MFun:=⟨3,3,(.cons (.assign 3 (.sub (.var 2) (.int 0))) (.cons (.assign 4 (.sub (.var 2) (.int 1))) (.cons (.assign 5 (.list (.cons (.tup (.cons (.bin .sub (.var 3) (.int 1)) (.cons (.var 4) .nil))) (.cons (.tup (.cons (.var 3) (.cons (.bin .sub (.var 4) (.int 1)) .nil))) (.cons (.tup (.cons (.var 3) (.cons (.bin .add (.var 4) (.int 1)) .nil))) (.cons (.tup (.cons (.bin .add (.var 3) (.int 1)) (.cons (.var 4) .nil))) .nil)))))) (.cons (.ret (.some (.comp (.var 6) (.var 5) (.some (.call 1 (.cons (.var 0) (.cons (.var 1) (.cons (.var 6) .nil)))))))) .nil))))⟩
noncomputable def Aet:MFun:=⟨2,3,(.cons (.assign 2 (.list .nil)) (.cons (.each 3 (.bf .range (.cons (.var 0) .nil)) (.cons (.each 4 (.bf .range (.cons (.var 1) .nil)) (.cons (.expr (.bm (.var 2) .append (.cons (.tup (.cons (.var 3) (.cons (.var 4) .nil))) .nil))) .nil)) .nil)) (.cons (.ret (.some (.var 2))) .nil)))⟩
noncomputable def Aby:MFun:=⟨1,0,(.cons (.ret (.some (.or (.cmp .is (.var 0) .none) (.call 0 (.cons (.var 0) (.cons (.int 0) (.cons (.glob 1) .nil))))))) .nil)⟩
noncomputable def Abz:MFun:=⟨1,1,(.cons (.ite (.or (.not (.isinst (.var 0) .list)) (.not (.call 0 (.cons (.bf .len (.cons (.var 0) .nil)) (.cons (.int 1) (.cons (.glob 0) .nil)))))) (.cons (.raise 1 "a list of rows is wanted") .nil) .nil) (.cons (.each 1 (.var 0) (.cons (.ite (.or (.not (.isinst (.var 1) .list)) (.not (.call 0 (.cons (.bf .len (.cons (.var 1) .nil)) (.cons (.int 1) (.cons (.glob 0) .nil)))))) (.cons (.raise 1 "a row is a list of heights") .nil) .nil) .nil)) (.cons (.each 1 (.var 0) (.cons (.ite (.cmp .ne (.bf .len (.cons (.var 1) .nil)) (.bf .len (.cons (.sub (.var 0) (.int 0)) .nil))) (.cons (.raise 1 "all rows are as long") .nil) .nil) .nil)) .nil)))⟩
noncomputable def Aeu:MFun:=⟨1,7,(.cons (.assign 1 .dict) (.cons (.assign 2 .dict) (.cons (.assign 3 (.new 8 .nil)) (.cons (.each 4 (.umeth (.var 0) 4 .nil) (.cons (.setitem (.var 1) (.var 4) (.umeth (.var 0) 2 (.cons (.var 4) .nil))) (.cons (.setitem (.var 2) (.var 4) .none) (.cons (.expr (.umeth (.var 3) 6 (.cons (.tup (.cons (.sub (.var 1) (.var 4)) (.cons (.var 4) .nil))) .nil))) .nil)))) (.cons (.loop (.cmp .gt (.umeth (.var 3) 10 .nil) (.int 0)) (.cons (.assign 5 (.umeth (.var 3) 8 .nil)) (.cons (.ite (.cmp .eq (.sub (.var 1) (.sub (.var 5) (.int 1))) (.sub (.var 5) (.int 0))) (.cons (.each 4 (.call 2 (.cons (.attr (.var 0) 0) (.cons (.attr (.var 0) 1) (.cons (.sub (.var 5) (.int 1)) .nil)))) (.cons (.assign 6 (.umeth (.var 0) 2 (.cons (.var 4) .nil))) (.cons (.ite (.cmp .isNot (.var 6) .none) (.cons (.assign 7 (.bf .max2 (.cons (.var 6) (.cons (.sub (.var 5) (.int 0)) .nil)))) (.cons (.ite (.or (.cmp .notin (.var 4) (.var 1)) (.cmp .lt (.var 7) (.sub (.var 1) (.var 4)))) (.cons (.setitem (.var 1) (.var 4) (.var 7)) (.cons (.setitem (.var 2) (.var 4) (.sub (.var 5) (.int 1))) (.cons (.expr (.umeth (.var 3) 6 (.cons (.tup (.cons (.var 7) (.cons (.var 4) .nil))) .nil))) .nil))) .nil) .nil)) .nil) .nil))) .nil) .nil) .nil))) (.cons (.ret (.some (.tup (.cons (.var 1) (.cons (.var 2) .nil))))) .nil))))))⟩
noncomputable def Ab0:MFun:=⟨2,2,(.cons (.ite (.not (.call 1 (.cons (.attr (.var 0) 0) (.cons (.attr (.var 0) 1) (.cons (.var 1) .nil))))) (.cons (.raise 3 "no such cell") .nil) .nil) (.cons (.assign 2 (.sub (.call 6 (.cons (.var 0) .nil)) (.int 1))) (.cons (.ite (.cmp .notin (.var 1) (.var 2)) (.cons (.raise 5 "no way leads out") .nil) .nil) (.cons (.assign 3 (.list (.cons (.var 1) .nil))) (.cons (.loop (.cmp .isNot (.sub (.var 2) (.sub (.var 3) (.neg (.int 1)))) .none) (.cons (.expr (.bm (.var 3) .append (.cons (.sub (.var 2) (.sub (.var 3) (.neg (.int 1)))) .nil))) .nil)) (.cons (.ret (.some (.var 3))) .nil))))))⟩
noncomputable def Ab1:MFun:=⟨2,0,(.cons (.ite (.cmp .lt (.var 1) (.bf .len (.cons (.var 0) .nil))) (.cons (.ret (.some (.sub (.var 0) (.var 1)))) .nil) .nil) (.cons (.ret (.some (.int 0))) .nil))⟩
noncomputable def Ab2:MFun:=⟨1,0,(.cons (.ret (.some (.and (.isinst (.var 0) .int) (.not (.isinst (.var 0) .bool))))) .nil)⟩
noncomputable def Nm:MFun:=⟨1,0,(.cons (.ite (.cmp .eq (.bin .mod (.bin .fdiv (.var 0) (.int 20)) (.int 8)) (.int 1)) (.cons (.ret (.some (.sub (.list (.cons (.tup (.cons (.int 1) (.cons (.int 30) .nil))) (.cons (.tup (.cons (.int 30) (.cons (.int 1) .nil))) (.cons (.tup (.cons (.int 5) (.cons (.int 5) .nil))) (.cons (.tup (.cons (.int 2) (.cons (.int 12) .nil))) (.cons (.tup (.cons (.int 2) (.cons (.int 30) .nil))) (.cons (.tup (.cons (.int 30) (.cons (.int 2) .nil))) (.cons (.tup (.cons (.int 6) (.cons (.int 7) .nil))) (.cons (.tup (.cons (.int 7) (.cons (.int 9) .nil))) .nil))))))))) (.bin .mod (.bin .fdiv (.var 0) (.int 160)) (.int 8))))) .nil) .nil) (.cons (.ret (.some (.tup (.cons (.bin .add (.int 1) (.bin .mod (.var 0) (.int 4))) (.cons (.bin .add (.int 1) (.bin .mod (.bin .fdiv (.var 0) (.int 4)) (.int 5))) .nil))))) .nil))⟩
noncomputable def Zd:MFun:=⟨2,0,(.cons (.ite (.cmp .eq (.bin .mod (.var 0) (.int 9)) (.int 8)) (.cons (.ret (.some .none)) .nil) .nil) (.cons (.ite (.cmp .eq (.var 1) (.int 0)) (.cons (.ret (.some (.bin .mod (.bin .fdiv (.var 0) (.int 9)) (.int 3)))) .nil) .nil) (.cons (.ite (.cmp .eq (.var 1) (.int 1)) (.cons (.ret (.some (.bin .mod (.bin .fdiv (.var 0) (.int 9)) (.int 12)))) .nil) .nil) (.cons (.ite (.cmp .eq (.var 1) (.int 2)) (.cons (.ret (.some (.bin .mod (.bin .fdiv (.var 0) (.int 9)) (.int 1000000001)))) .nil) .nil) (.cons (.ret (.some (.bin .sub (.int 1000000000) (.bin .mod (.bin .fdiv (.var 0) (.int 9)) (.int 2))))) .nil)))))⟩
noncomputable def No:MFun:=⟨2,0,(.cons (.ite (.cmp .lt (.bin .add (.var 1) (.int 3)) (.bf .len (.cons (.var 0) .nil))) (.cons (.ret (.some (.sub (.var 0) (.bin .add (.var 1) (.int 3))))) .nil) .nil) (.cons (.ret (.some (.bin .add (.bin .add (.bin .mul (.int 7) (.call 8 (.cons (.var 0) (.cons (.int 1) .nil)))) (.bin .mul (.bin .mul (.call 8 (.cons (.var 0) (.cons (.int 2) .nil))) (.var 1)) (.var 1))) (.bin .mul (.int 13) (.var 1))))) .nil))⟩
noncomputable def Ze:MFun:=⟨1,5,(.cons (.assign 1 (.call 10 (.cons (.call 8 (.cons (.var 0) (.cons (.int 0) .nil))) .nil))) (.cons (.assign 2 (.bin .mod (.call 8 (.cons (.var 0) (.cons (.int 1) .nil))) (.int 4))) (.cons (.assign 3 (.list .nil)) (.cons (.each 4 (.bf .range (.cons (.sub (.var 1) (.int 0)) .nil)) (.cons (.assign 5 (.comp (.call 12 (.cons (.var 0) (.cons (.bin .add (.bin .mul (.var 4) (.sub (.var 1) (.int 1))) (.var 6)) .nil))) (.bf .range (.cons (.sub (.var 1) (.int 1)) .nil)) .none)) (.cons (.expr (.bm (.var 3) .append (.cons (.comp (.call 11 (.cons (.var 6) (.cons (.var 2) .nil))) (.var 5) .none) .nil))) .nil))) (.cons (.ret (.some (.var 3))) .nil)))))⟩
noncomputable def Zf:MFun:=⟨2,6,(.cons (.assign 2 (.call 8 (.cons (.var 0) (.cons (.int 2) .nil)))) (.cons (.assign 3 (.sub (.list (.cons (.int 2) (.cons (.int 3) (.cons (.int 5) (.cons (.int 9) (.cons (.int 14) .nil)))))) (.bin .mod (.bin .fdiv (.var 2) (.int 60)) (.int 5)))) (.cons (.assign 4 (.list .nil)) (.cons (.each 5 (.bf .range (.cons (.bf .len (.cons (.var 1) .nil)) .nil)) (.cons (.each 6 (.bf .range (.cons (.bf .len (.cons (.sub (.var 1) (.int 0)) .nil)) .nil)) (.cons (.assign 7 (.bin .add (.bin .mul (.var 5) (.bf .len (.cons (.sub (.var 1) (.int 0)) .nil))) (.var 6))) (.cons (.ite (.and (.cmp .isNot (.sub (.sub (.var 1) (.var 5)) (.var 6)) .none) (.cmp .eq (.bin .mod (.bin .add (.var 2) (.bin .mul (.var 7) (.bin .add (.int 1) (.bin .mod (.bin .fdiv (.var 2) (.int 12)) (.int 5))))) (.var 3)) (.int 0))) (.cons (.expr (.bm (.var 4) .append (.cons (.tup (.cons (.var 5) (.cons (.var 6) .nil))) .nil))) .nil) .nil) .nil))) .nil)) (.cons (.ret (.some (.var 4))) .nil)))))⟩
noncomputable def Zg:MFun:=⟨2,3,(.cons (.assign 2 (.comp (.bf .list (.cons (.var 5) .nil)) (.var 0) .none)) (.cons (.setitem (.sub (.var 2) (.int 0)) (.int 0) (.int 7)) (.cons (.assign 3 (.new 7 (.cons (.var 2) .nil))) (.cons (.expr (.umeth (.var 3) 3 (.cons (.tup (.cons (.int 0) (.cons (.int 0) .nil))) .nil))) (.cons (.expr (.call 37 (.cons (.var 3) .nil))) (.cons (.expr (.umeth (.var 3) 12 (.cons (.tup (.cons (.int 0) (.cons (.int 0) .nil))) .nil))) (.cons (.expr (.call 37 (.cons (.var 3) .nil))) (.cons (.expr (.umeth (.var 3) 11 (.cons (.tup (.cons (.int 0) (.cons (.int 0) .nil))) (.cons (.sub (.sub (.var 0) (.int 0)) (.int 0)) .nil)))) (.cons (.expr (.call 37 (.cons (.var 3) .nil))) (.cons (.each 4 (.var 1) (.cons (.expr (.umeth (.var 3) 3 (.cons (.var 4) .nil))) .nil)) (.cons (.ret (.some (.var 3))) .nil)))))))))))⟩
noncomputable def Zh:MFun:=⟨2,1,(.cons (.assign 2 (.list .nil)) (.cons (.ite (.cmp .gt (.sub (.var 1) (.int 0)) (.int 0)) (.cons (.expr (.bm (.var 2) .append (.cons (.tup (.cons (.bin .sub (.sub (.var 1) (.int 0)) (.int 1)) (.cons (.sub (.var 1) (.int 1)) .nil))) .nil))) .nil) .nil) (.cons (.ite (.cmp .gt (.sub (.var 1) (.int 1)) (.int 0)) (.cons (.expr (.bm (.var 2) .append (.cons (.tup (.cons (.sub (.var 1) (.int 0)) (.cons (.bin .sub (.sub (.var 1) (.int 1)) (.int 1)) .nil))) .nil))) .nil) .nil) (.cons (.ite (.cmp .lt (.bin .add (.sub (.var 1) (.int 1)) (.int 1)) (.bf .len (.cons (.sub (.var 0) (.int 0)) .nil))) (.cons (.expr (.bm (.var 2) .append (.cons (.tup (.cons (.sub (.var 1) (.int 0)) (.cons (.bin .add (.sub (.var 1) (.int 1)) (.int 1)) .nil))) .nil))) .nil) .nil) (.cons (.ite (.cmp .lt (.bin .add (.sub (.var 1) (.int 0)) (.int 1)) (.bf .len (.cons (.var 0) .nil))) (.cons (.expr (.bm (.var 2) .append (.cons (.tup (.cons (.bin .add (.sub (.var 1) (.int 0)) (.int 1)) (.cons (.sub (.var 1) (.int 1)) .nil))) .nil))) .nil) .nil) (.cons (.ret (.some (.comp (.var 3) (.var 2) (.some (.cmp .isNot (.sub (.sub (.var 0) (.sub (.var 3) (.int 0))) (.sub (.var 3) (.int 1))) .none))))) .nil))))))⟩
noncomputable def Zi:MFun:=⟨3,2,(.cons (.assign 3 .none) (.cons (.each 4 (.call 16 (.cons (.var 0) (.cons (.var 1) .nil))) (.cons (.ite (.and (.cmp .isin (.var 4) (.var 2)) (.or (.cmp .is (.var 3) .none) (.cmp .lt (.sub (.var 2) (.var 4)) (.var 3)))) (.cons (.assign 3 (.sub (.var 2) (.var 4))) .nil) .nil) .nil)) (.cons (.ret (.some (.var 3))) .nil)))⟩
noncomputable def Zj:MFun:=⟨2,6,(.cons (.assign 2 .dict) (.cons (.each 3 (.var 1) (.cons (.setitem (.var 2) (.var 3) (.sub (.sub (.var 0) (.sub (.var 3) (.int 0))) (.sub (.var 3) (.int 1)))) .nil)) (.cons (.assign 4 (.bool true)) (.cons (.loop (.var 4) (.cons (.assign 4 (.bool false)) (.cons (.each 5 (.bf .range (.cons (.bf .len (.cons (.var 0) .nil)) .nil)) (.cons (.each 6 (.bf .range (.cons (.bf .len (.cons (.sub (.var 0) (.int 0)) .nil)) .nil)) (.cons (.assign 7 (.call 17 (.cons (.var 0) (.cons (.tup (.cons (.var 5) (.cons (.var 6) .nil))) (.cons (.var 2) .nil))))) (.cons (.ite (.and (.cmp .isNot (.sub (.sub (.var 0) (.var 5)) (.var 6)) .none) (.cmp .isNot (.var 7) .none)) (.cons (.assign 7 (.bf .max2 (.cons (.var 7) (.cons (.sub (.sub (.var 0) (.var 5)) (.var 6)) .nil)))) (.cons (.ite (.or (.cmp .notin (.tup (.cons (.var 5) (.cons (.var 6) .nil))) (.var 2)) (.cmp .lt (.var 7) (.sub (.var 2) (.tup (.cons (.var 5) (.cons (.var 6) .nil)))))) (.cons (.setitem (.var 2) (.tup (.cons (.var 5) (.cons (.var 6) .nil))) (.var 7)) (.cons (.assign 4 (.bool true)) .nil)) .nil) .nil)) .nil) .nil))) .nil)) .nil))) (.cons (.ret (.some (.var 2))) .nil)))))⟩
noncomputable def Aev:MFun:=⟨1,1,(.cons (.assign 1 (.str "")) (.cons (.ite (.isinst (.var 0) (.cls 1)) (.cons (.assign 1 (.bin .add (.var 1) (.str "land "))) .nil) .nil) (.cons (.ite (.isinst (.var 0) (.cls 2)) (.cons (.assign 1 (.bin .add (.var 1) (.str "height "))) .nil) .nil) (.cons (.ite (.isinst (.var 0) (.cls 3)) (.cons (.assign 1 (.bin .add (.var 1) (.str "cell "))) .nil) .nil) (.cons (.ite (.isinst (.var 0) (.cls 4)) (.cons (.assign 1 (.bin .add (.var 1) (.str "drain "))) .nil) .nil) (.cons (.ite (.isinst (.var 0) (.cls 5)) (.cons (.assign 1 (.bin .add (.var 1) (.str "way "))) .nil) .nil) (.cons (.ite (.isinst (.var 0) (.cls 6)) (.cons (.assign 1 (.bin .add (.var 1) (.str "rain "))) .nil) .nil) (.cons (.ite (.isinst (.var 0) (.cls 9)) (.cons (.ret (.some (.bm (.var 1) .rstrip .nil))) .nil) .nil) (.cons (.ret (.some (.str "another base"))) .nil)))))))))⟩
noncomputable def Zk:MFun:=⟨2,1,(.cons (.tryx (.cons (.expr (.call 36 (.cons (.var 0) (.cons (.var 1) .nil)))) .nil) (.cons 0 (some 2) (.cons (.ret (.some (.call 19 (.cons (.var 2) .nil)))) .nil) .nil)) (.cons (.ret (.some (.str ""))) .nil))⟩
noncomputable def Zl:MFun:=⟨4,5,(.cons (.assign 4 .dict) (.cons (.each 5 (.var 2) (.cons (.setitem (.var 4) (.var 5) (.int 0)) .nil)) (.cons (.assign 6 (.int 0)) (.cons (.each 7 (.var 3) (.cons (.ite (.cmp .isin (.sub (.var 7) (.int 0)) (.var 1)) (.cons (.assign 8 (.sub (.call 7 (.cons (.var 0) (.cons (.sub (.var 7) (.int 0)) .nil))) (.neg (.int 1)))) (.cons (.setitem (.var 4) (.var 8) (.bin .add (.sub (.var 4) (.var 8)) (.sub (.var 7) (.int 1)))) .nil)) (.cons (.assign 6 (.bin .add (.var 6) (.sub (.var 7) (.int 1)))) .nil)) .nil)) (.cons (.ret (.some (.tup (.cons (.comp (.tup (.cons (.var 9) (.cons (.sub (.var 4) (.var 9)) .nil))) (.var 2) .none) (.cons (.var 6) .nil))))) .nil)))))⟩
noncomputable def Ul:MFun:=⟨1,13,(.cons (.assign 1 (.call 13 (.cons (.var 0) .nil))) (.cons (.assign 2 (.call 14 (.cons (.var 0) (.cons (.var 1) .nil)))) (.cons (.assign 3 (.call 15 (.cons (.var 1) (.cons (.var 2) .nil)))) (.cons (.assign 4 (.call 38 (.cons (.var 0) (.cons (.var 1) .nil)))) (.cons (.assign 5 (.call 8 (.cons (.var 0) (.cons (.int 0) .nil)))) (.cons (.ite (.cmp .eq (.bin .mod (.bin .fdiv (.var 5) (.int 7)) (.int 4)) (.int 0)) (.cons (.assign 6 (.bin .mod (.call 8 (.cons (.var 0) (.cons (.int 3) .nil))) (.bin .add (.bf .len (.cons (.var 4) .nil)) (.int 1)))) (.cons (.assign 7 (.bin .add (.bin .add (.slice (.var 4) .none (.some (.var 6))) (.list (.cons (.call 39 (.cons (.bin .fdiv (.var 5) (.int 28)) (.cons (.var 1) .nil))) .nil))) (.slice (.var 4) (.some (.var 6)) .none))) (.cons (.ite (.cmp .eq (.bin .mod (.bin .fdiv (.var 5) (.int 280)) (.int 2)) (.int 0)) (.cons (.expr (.bm (.var 7) .append (.cons (.call 39 (.cons (.bin .fdiv (.var 5) (.int 560)) (.cons (.var 1) .nil))) .nil))) .nil) .nil) (.cons (.assign 8 (.list (.cons (.str "cell") (.cons (.str "rain") (.cons (.str "rain") (.cons (.str "rain") (.cons (.str "rain") (.cons (.str "rain") (.cons (.str "cell") (.cons (.str "cell") (.cons (.str "cell") (.cons (.str "cell") .nil)))))))))))) (.cons (.assign 8 (.bin .add (.var 8) (.list (.cons (.str "cell") (.cons (.str "cell") (.cons (.str "rain") (.cons (.str "rain") (.cons (.str "cell") (.cons (.str "cell") .nil))))))))) (.cons (.ret (.some (.cmp .eq (.call 20 (.cons (.var 3) (.cons (.var 7) .nil))) (.sub (.var 8) (.bin .mod (.bin .fdiv (.var 5) (.int 28)) (.int 16)))))) .nil)))))) .nil) (.cons (.assign 9 (.tup (.cons (.comp (.tup (.cons (.var 14) (.cons (.int 0) .nil))) (.var 2) .none) (.cons (.int 0) .nil)))) (.cons (.ite (.cmp .ne (.call 36 (.cons (.var 3) (.cons (.list .nil) .nil))) (.var 9)) (.cons (.ret (.some (.bool false))) .nil) .nil) (.cons (.assign 10 (.bf .list (.cons (.var 4) .nil))) (.cons (.assign 11 (.call 36 (.cons (.var 3) (.cons (.var 10) .nil)))) (.cons (.assign 12 (.call 21 (.cons (.var 3) (.cons (.call 18 (.cons (.var 1) (.cons (.var 2) .nil))) (.cons (.var 2) (.cons (.var 4) .nil)))))) (.cons (.ite (.or (.not (.isinst (.var 11) .tuple)) (.or (.cmp .ne (.bf .len (.cons (.var 11) .nil)) (.int 2)) (.or (.not (.isinst (.sub (.var 11) (.int 0)) .list)) (.not (.call 9 (.cons (.sub (.var 11) (.int 1)) .nil)))))) (.cons (.ret (.some (.bool false))) .nil) .nil) (.cons (.each 13 (.sub (.var 11) (.int 0)) (.cons (.ite (.or (.not (.isinst (.var 13) .tuple)) (.or (.cmp .ne (.bf .len (.cons (.var 13) .nil)) (.int 2)) (.not (.call 9 (.cons (.sub (.var 13) (.int 1)) .nil))))) (.cons (.ret (.some (.bool false))) .nil) .nil) .nil)) (.cons (.ite (.or (.cmp .ne (.var 11) (.var 12)) (.cmp .ne (.var 10) (.var 4))) (.cons (.ret (.some (.bool false))) .nil) .nil) (.cons (.expr (.bm (.var 10) .clear .nil)) (.cons (.expr (.bm (.sub (.var 11) (.int 0)) .clear .nil)) (.cons (.ite (.or (.cmp .ne (.call 36 (.cons (.var 3) (.cons (.var 10) .nil))) (.var 9)) (.cmp .ne (.call 36 (.cons (.var 3) (.cons (.bf .list (.cons (.var 4) .nil)) .nil))) (.var 12))) (.cons (.ret (.some (.bool false))) .nil) .nil) (.cons (.ret (.some (.and (.cmp .eq (.umeth (.var 3) 5 .nil) (.var 1)) (.cmp .eq (.umeth (.var 3) 4 .nil) (.var 2))))) .nil))))))))))))))))))⟩
noncomputable def Zm:MFun:=⟨2,2,(.cons (.expr (.call 5 (.cons (.var 1) .nil))) (.cons (.each 2 (.var 1) (.cons (.each 3 (.var 2) (.cons (.ite (.not (.call 4 (.cons (.var 3) .nil))) (.cons (.raise 2 "a height or None is wanted") .nil) .nil) .nil)) .nil)) (.cons (.setattr (.var 0) 0 (.bf .len (.cons (.var 1) .nil))) (.cons (.setattr (.var 0) 1 (.bf .len (.cons (.sub (.var 1) (.int 0)) .nil))) (.cons (.setattr (.var 0) 2 (.comp (.bf .list (.cons (.var 4) .nil)) (.var 1) .none)) (.cons (.setattr (.var 0) 3 .dict) .nil))))))⟩
noncomputable def Um:MFun:=⟨2,0,(.cons (.ite (.not (.call 1 (.cons (.attr (.var 0) 0) (.cons (.attr (.var 0) 1) (.cons (.var 1) .nil))))) (.cons (.raise 3 "no such cell") .nil) .nil) .nil)⟩
noncomputable def Un:MFun:=⟨2,0,(.cons (.expr (.umeth (.var 0) 1 (.cons (.var 1) .nil))) (.cons (.ret (.some (.sub (.sub (.attr (.var 0) 2) (.sub (.var 1) (.int 0))) (.sub (.var 1) (.int 1))))) .nil))⟩
noncomputable def Uo:MFun:=⟨2,0,(.cons (.expr (.umeth (.var 0) 1 (.cons (.var 1) .nil))) (.cons (.ite (.cmp .is (.sub (.sub (.attr (.var 0) 2) (.sub (.var 1) (.int 0))) (.sub (.var 1) (.int 1))) .none) (.cons (.raise 4 "stone is no drain") .nil) .nil) (.cons (.setitem (.attr (.var 0) 3) (.var 1) (.bool true)) .nil)))⟩
noncomputable def Uq:MFun:=⟨1,0,(.cons (.ret (.some (.comp (.var 1) (.call 3 (.cons (.attr (.var 0) 0) (.cons (.attr (.var 0) 1) .nil))) (.some (.cmp .isin (.var 1) (.attr (.var 0) 3)))))) .nil)⟩
noncomputable def Ur:MFun:=⟨1,0,(.cons (.ret (.some (.comp (.bf .list (.cons (.var 1) .nil)) (.attr (.var 0) 2) .none))) .nil)⟩
noncomputable def Us:MFun:=⟨1,0,(.cons (.setattr (.var 0) 4 (.list .nil)) .nil)⟩
noncomputable def Zn:MFun:=⟨2,4,(.cons (.assign 2 (.attr (.var 0) 4)) (.cons (.expr (.bm (.var 2) .append (.cons (.var 1) .nil))) (.cons (.assign 3 (.bin .sub (.bf .len (.cons (.var 2) .nil)) (.int 1))) (.cons (.loop (.and (.cmp .gt (.var 3) (.int 0)) (.cmp .lt (.sub (.var 2) (.var 3)) (.sub (.var 2) (.bin .fdiv (.bin .sub (.var 3) (.int 1)) (.int 2))))) (.cons (.assign 4 (.bin .fdiv (.bin .sub (.var 3) (.int 1)) (.int 2))) (.cons (.assign 5 (.sub (.var 2) (.var 4))) (.cons (.setitem (.var 2) (.var 4) (.sub (.var 2) (.var 3))) (.cons (.setitem (.var 2) (.var 3) (.var 5)) (.cons (.assign 3 (.var 4)) .nil)))))) .nil))))⟩
noncomputable def Aew:MFun:=⟨1,0,(.cons (.ite (.cmp .eq (.bf .len (.cons (.attr (.var 0) 4) .nil)) (.int 0)) (.cons (.ret (.some .none)) .nil) .nil) (.cons (.ret (.some (.sub (.attr (.var 0) 4) (.int 0)))) .nil))⟩
noncomputable def Zo:MFun:=⟨1,3,(.cons (.assign 1 (.attr (.var 0) 4)) (.cons (.ite (.cmp .eq (.bf .len (.cons (.var 1) .nil)) (.int 0)) (.cons (.ret (.some .none)) .nil) .nil) (.cons (.assign 2 (.sub (.var 1) (.int 0))) (.cons (.assign 3 (.bm (.var 1) .pop .nil)) (.cons (.ite (.cmp .gt (.bf .len (.cons (.var 1) .nil)) (.int 0)) (.cons (.setitem (.var 1) (.int 0) (.var 3)) (.cons (.expr (.umeth (.var 0) 9 .nil)) .nil)) .nil) (.cons (.ret (.some (.var 2))) .nil))))))⟩
noncomputable def Zp:MFun:=⟨1,6,(.cons (.assign 1 (.attr (.var 0) 4)) (.cons (.assign 2 (.int 0)) (.cons (.assign 3 (.bool true)) (.cons (.loop (.var 3) (.cons (.assign 4 (.var 2)) (.cons (.each 5 (.list (.cons (.bin .add (.bin .mul (.int 2) (.var 2)) (.int 1)) (.cons (.bin .add (.bin .mul (.int 2) (.var 2)) (.int 2)) .nil))) (.cons (.ite (.and (.cmp .lt (.var 5) (.bf .len (.cons (.var 1) .nil))) (.cmp .lt (.sub (.var 1) (.var 5)) (.sub (.var 1) (.var 4)))) (.cons (.assign 4 (.var 5)) .nil) .nil) .nil)) (.cons (.assign 3 (.cmp .ne (.var 4) (.var 2))) (.cons (.assign 6 (.sub (.var 1) (.var 2))) (.cons (.setitem (.var 1) (.var 2) (.sub (.var 1) (.var 4))) (.cons (.setitem (.var 1) (.var 4) (.var 6)) (.cons (.assign 2 (.var 4)) .nil)))))))) .nil))))⟩
noncomputable def Ut:MFun:=⟨1,0,(.cons (.ret (.some (.bf .len (.cons (.attr (.var 0) 4) .nil)))) .nil)⟩
noncomputable def Zq:MFun:=⟨2,1,(.cons (.each 2 (.var 1) (.cons (.ite (.or (.not (.isinst (.var 2) .tuple)) (.cmp .ne (.bf .len (.cons (.var 2) .nil)) (.int 2))) (.cons (.raise 6 "a pair is wanted") .nil) .nil) (.cons (.ite (.not (.call 1 (.cons (.attr (.var 0) 0) (.cons (.attr (.var 0) 1) (.cons (.sub (.var 2) (.int 0)) .nil))))) (.cons (.raise 3 "no such cell") .nil) .nil) (.cons (.ite (.not (.call 0 (.cons (.sub (.var 2) (.int 1)) (.cons (.int 0) (.cons (.glob 2) .nil))))) (.cons (.raise 6 "an amount is wanted") .nil) .nil) .nil)))) .nil)⟩
noncomputable def Uu:MFun:=⟨2,7,(.cons (.expr (.call 35 (.cons (.var 0) (.cons (.var 1) .nil)))) (.cons (.assign 2 (.sub (.call 6 (.cons (.var 0) .nil)) (.int 1))) (.cons (.assign 3 .dict) (.cons (.each 4 (.umeth (.var 0) 4 .nil) (.cons (.setitem (.var 3) (.var 4) (.int 0)) .nil)) (.cons (.assign 5 (.int 0)) (.cons (.eachPair 6 7 (.var 1) (.cons (.ite (.cmp .isin (.var 6) (.var 2)) (.cons (.assign 8 (.var 6)) (.cons (.loop (.cmp .isNot (.sub (.var 2) (.var 8)) .none) (.cons (.assign 8 (.sub (.var 2) (.var 8))) .nil)) (.cons (.setitem (.var 3) (.var 8) (.bin .add (.sub (.var 3) (.var 8)) (.var 7))) .nil))) (.cons (.assign 5 (.bin .add (.var 5) (.var 7))) .nil)) .nil)) (.cons (.ret (.some (.tup (.cons (.comp (.tup (.cons (.var 9) (.cons (.sub (.var 3) (.var 9)) .nil))) (.umeth (.var 0) 4 .nil) .none) (.cons (.var 5) .nil))))) .nil)))))))⟩
noncomputable def Zr:MFun:=⟨1,0,(.cons (.expr (.bm (.sub (.call 36 (.cons (.var 0) (.cons (.list (.cons (.tup (.cons (.tup (.cons (.int 0) (.cons (.int 0) .nil))) (.cons (.int 1) .nil))) .nil)) .nil))) (.int 0)) .clear .nil)) (.cons (.expr (.bm (.umeth (.var 0) 4 .nil) .clear .nil)) .nil))⟩
noncomputable def Zs:MFun:=⟨2,3,(.cons (.assign 2 (.list .nil)) (.cons (.each 3 (.slice (.var 0) (.some (.neg (.int 12))) .none) (.cons (.assign 4 (.bin .mod (.bin .fdiv (.var 3) (.int 900)) (.int 10))) (.cons (.ite (.cmp .eq (.bin .mod (.var 3) (.int 4)) (.int 1)) (.cons (.assign 4 (.sub (.list (.cons (.int 1000000000) (.cons (.bin .mod (.bin .fdiv (.var 3) (.int 4)) (.int 1000000001)) .nil))) (.bin .mod (.bin .fdiv (.var 3) (.int 4)) (.int 2)))) .nil) .nil) (.cons (.expr (.bm (.var 2) .append (.cons (.tup (.cons (.tup (.cons (.bin .mod (.var 3) (.bf .len (.cons (.var 1) .nil))) (.cons (.bin .mod (.bin .fdiv (.var 3) (.int 30)) (.bf .len (.cons (.sub (.var 1) (.int 0)) .nil))) .nil))) (.cons (.var 4) .nil))) .nil))) .nil)))) (.cons (.ite (.cmp .eq (.bin .mod (.bin .fdiv (.call 8 (.cons (.var 0) (.cons (.int 0) .nil))) (.int 3)) (.int 5)) (.int 0)) (.cons (.ret (.some (.bin .add (.bin .add (.bin .add (.bin .add (.var 2) (.var 2)) (.var 2)) (.var 2)) (.var 2)))) .nil) .nil) (.cons (.ret (.some (.var 2))) .nil))))⟩
noncomputable def Zt:MFun:=⟨2,1,(.cons (.assign 2 (.list (.cons (.tup (.cons (.tup (.cons (.bf .len (.cons (.var 1) .nil)) (.cons (.int 0) .nil))) (.cons (.int 1) .nil))) (.cons (.tup (.cons (.tup (.cons (.int 0) (.cons (.int 0) .nil))) (.cons (.neg (.int 1)) .nil))) (.cons (.tup (.cons (.tup (.cons (.int 0) (.cons (.int 0) .nil))) (.cons (.bool true) .nil))) (.cons (.tup (.cons (.tup (.cons (.int 0) (.cons (.int 0) .nil))) (.cons (.int 1000000001) .nil))) .nil)))))) (.cons (.assign 2 (.bin .add (.var 2) (.list (.cons (.list (.cons (.tup (.cons (.int 0) (.cons (.int 0) .nil))) (.cons (.int 1) .nil))) (.cons (.tup (.cons (.tup (.cons (.int 0) (.cons (.int 0) .nil))) (.cons (.int 1) (.cons (.int 1) .nil)))) (.cons (.tup (.cons (.tup (.cons (.int 0) .nil)) (.cons (.int 1) .nil))) (.cons (.tup (.cons (.tup (.cons (.int 0) (.cons (.neg (.int 1)) .nil))) (.cons (.neg (.int 1)) .nil))) (.cons (.tup (.cons (.list (.cons (.int 0) (.cons (.int 0) .nil))) (.cons (.int 1) .nil))) (.cons (.tup (.cons (.tup (.cons (.bool true) (.cons (.int 0) .nil))) (.cons (.int 1) .nil))) .nil))))))))) (.cons (.assign 2 (.bin .add (.var 2) (.list (.cons (.tup (.cons (.tup (.cons (.str "0") (.cons (.int 0) .nil))) (.cons (.int 1) .nil))) (.cons (.tup (.cons (.tup (.cons (.int 0) (.cons .none .nil))) (.cons (.int 1) .nil))) (.cons (.tup (.cons (.tup (.cons (.int 0) (.cons (.int 0) .nil))) (.cons (.str "1") .nil))) (.cons (.tup (.cons (.tup (.cons (.int 0) (.cons (.int 0) .nil))) (.cons .none .nil))) (.cons (.tup (.cons (.tup (.cons (.neg (.int 1)) (.cons (.int 0) .nil))) (.cons (.int 1) .nil))) (.cons (.tup (.cons (.tup (.cons (.int 0) (.cons (.bf .len (.cons (.sub (.var 1) (.int 0)) .nil)) .nil))) (.cons (.int 1) .nil))) .nil))))))))) (.cons (.ret (.some (.sub (.var 2) (.bin .mod (.var 0) (.int 16))))) .nil))))⟩
noncomputable def Zu:MFun:=⟨3,0,(.cons (.expr (.umeth (.var 0) 1 (.cons (.var 1) .nil))) (.cons (.ite (.not (.call 4 (.cons (.var 2) .nil))) (.cons (.raise 2 "a height or None is wanted") .nil) .nil) (.cons (.setitem (.sub (.attr (.var 0) 2) (.sub (.var 1) (.int 0))) (.sub (.var 1) (.int 1)) (.var 2)) (.cons (.ite (.and (.cmp .is (.var 2) .none) (.cmp .isin (.var 1) (.attr (.var 0) 3))) (.cons (.expr (.bm (.attr (.var 0) 3) .dpop (.cons (.var 1) .nil))) .nil) .nil) .nil))))⟩
noncomputable def Zv:MFun:=⟨2,0,(.cons (.expr (.umeth (.var 0) 1 (.cons (.var 1) .nil))) (.cons (.ite (.cmp .notin (.var 1) (.attr (.var 0) 3)) (.cons (.raise 4 "no drain") .nil) .nil) (.cons (.expr (.bm (.attr (.var 0) 3) .dpop (.cons (.var 1) .nil))) .nil)))⟩
noncomputable def T_11:Tab:=⟨[Rl,O1,Abx,Aet,Aby,Abz,Aeu,Ab0,Ab1,Ab2,Nm,Zd,No,Ze,Zf,Zg,Zh,Zi,Zj,Aev,Zk,Zl,Ul,Zm,Um,Un,Uo,Uq,Ur,Us,Zn,Aew,Zo,Zp,Ut,Zq,Uu,Zr,Zs,Zt,Zu,Zv],[[],[],[],[],[],[],[],[(0,23),(1,24),(2,25),(3,26),(4,27),(5,28),(11,40),(12,41)],[(0,29),(6,30),(7,31),(8,32),(9,33),(10,34)],[]],[[0,9],[1,0,9],[2,0,9],[3,0,9],[4,0,9],[5,0,9],[6,0,9],[7],[8],[9]],[.int 30,.int 1000000000,.int 1000000000]⟩
noncomputable def N_11:Names:=⟨[("whole",0),("lies_in",1),("beside",2),("all_cells",3),("is_height",4),("look_at_rows",5),("flood",6),("way_out",7),("_law_cell_at",8),("_law_whole",9),("_law_size",10),("_law_height_by",11),("_law_number",12),("_law_grid",13),("_law_drains",14),("_law_land",15),("_law_beside",16),("_law_least_beside",17),("_law_levels",18),("_law_word_of",19),("_law_word",20),("_law_due",21),("law",22),("look_at_rain",35),("runoff",36),("_law_asked",37),("_law_rain",38),("_law_odd",39)],[("LandError",0),("NoLand",1),("NoHeight",2),("NoCell",3),("NoDrain",4),("NoWay",5),("NoRain",6),("Land",7),("Pile",8),("ValueError",9)],[("MOST_SIDE",0),("MOST_HEIGHT",1),("MOST_AMOUNT",2)],[("rows",0),("columns",1),("grid",2),("sinks",3),("heap",4)],[("__init__",0),("look_at",1),("height",2),("opened",3),("drains",4),("heights",5),("put",6),("least",7),("take",8),("sink",9),("many",10),("raised",11),("shut",12)]⟩
noncomputable def V_11:List (List Str):=([["thing","low","high"],["rows","columns","cell"],["rows","columns","cell","row","column","near"],["rows","columns","found","row","column"],["thing"],["heights","row"],["land","found","goals","pile","cell","here","high","level"],["land","cell","goals","found"],["_law_script","_law_k"],["_law_found"],["_law_cell"],["_law_number_here","_law_kind"],["_law_script","_law_k"],["_law_script","_law_size_here","_law_kind","_law_rows","_law_row","_law_numbers"],["_law_script","_law_rows","_law_cell","_law_every","_law_found","_law_row","_law_column","_law_at"],["_law_rows","_law_drains_here","_law_first","_law_land_here","_law_cell"],["_law_rows","_law_cell","_law_found"],["_law_rows","_law_cell","_law_level","_law_least","_law_one"],["_law_rows","_law_drains_here","_law_level","_law_cell","_law_moved","_law_row","_law_column","_law_least"],["_law_error","_law_word_here"],["_law_land_here","_law_rain_here","_law_error"],["_law_land_here","_law_level","_law_drains_here","_law_rain_here","_law_sums","_law_cell","_law_kept","_law_pair","_law_end"],["_law_script","_law_rows","_law_drains_here","_law_land_here","_law_rain_here","_law_first","_law_at","_law_odd_here","_law_words","_law_none","_law_handed","_law_found","_law_due_here","_law_pair"],["self","heights","row","one"],["self","cell"],["self","cell"],["self","cell"],["self"],["self"],["self"]]:List (List Str)).append ([["self","value","heap","at","above","kept"],["self"],["self","heap","found","last"],["self","heap","at","going","small","below","kept"],["self"],["land","rain","pair"],["land","rain","goals","amounts","drain","stays","cell","amount","here"],["_law_land_here"],["_law_script","_law_rows","_law_rain_here","_law_cell","_law_amount"],["_law_cell","_law_rows","_law_odd_here"],["self","cell","height"],["self","cell"]]:List (List Str))
end Mine.Internal
namespace Mine.Internal.Pure
open PySem Pile
noncomputable def Hv:List Int -> List Int -> Bool
  | [],[]=>false
  | [],_ :: _=>true
  | _ :: _,[]=>false
  | x :: xs,y :: ys=>if x < y then true else if y < x then false else Hv xs ys
theorem B8 {x y:Int} {xs ys:List Int}:Hv (x :: xs) (y :: ys)=if x < y then true else if y < x then false else Hv xs ys:=rfl
theorem P4:∀ (a b:List Int),Hv a b=true -> Hv b a=false
  | [],[],h=>by cases h
  | [],_ :: _,_=>rfl
  | _ :: _,[],h=>by cases h
  | x :: xs,y :: ys,h=>by
    rw [B8] at h ⊢
    by_cases q:x < y
    · rw [if_neg (by exact o64 q),if_pos q]
    · rw [if_neg q] at h
      by_cases q2:y < x
      · rw [if_pos q2] at h;cases h
      · rw [if_neg q2] at h
        rw [if_neg q2,if_neg q];exact P4 xs ys h
theorem Zw:∀ (a b c:List Int),Hv b a=false -> Hv c b=false -> Hv c a=false
  | [],b,c,h1,h2=>by
    cases c with
    | nil=>rfl
    | cons z zs=>rfl
  | x :: xs,[],c,h1,h2=>by cases h1
  | x :: xs,y :: ys,[],h1,h2=>by cases h2
  | x :: xs,y :: ys,z :: zs,h1,h2=>by
    rw [B8] at h1 h2 ⊢
    by_cases q1:y < x
    · rw [if_pos q1] at h1;cases h1
    · rw [if_neg q1] at h1
      by_cases q2:z < y
      · rw [if_pos q2] at h2;cases h2
      · rw [if_neg q2] at h2
        rw [if_neg (by exact o65 q1 q2)]
        by_cases q3:x < z
        · rw [if_pos q3]
        · rw [if_neg q3]
          rw [if_neg (by omega)] at h1 h2
          exact Zw xs ys zs h1 h2
theorem P5:∀ (a b:List Int),Hv a b=false -> Hv b a=false -> a=b
  | [],[],_,_=>rfl
  | [],_ :: _,h,_=>by cases h
  | _ :: _,[],_,h=>by cases h
  | x :: xs,y :: ys,h1,h2=>by
    rw [B8] at h1 h2
    by_cases q1:x < y
    · rw [if_pos q1] at h1;cases h1
    · rw [if_neg q1] at h1
      by_cases q2:y < x
      · rw [if_pos q2] at h2;cases h2
      · rw [if_neg q2] at h1 h2
        rw [if_neg q1] at h2
        rw [P5 xs ys h1 h2,show x=y by exact o66 q1 q2]
noncomputable def Ah4:Nat -> Val -> List Int
  | 0,_=>[]
  | n+1,v=>(match v with
    | .int i=>[i]
    | .tup vs=>vs.flatMap (Ah4 n)
    | _=>[])
noncomputable def key (v:Val):List Int:=Ah4 3 v
noncomputable def klt (a b:Val):Bool:=Hv (key a) (key b)
theorem Ge:Ord klt:=⟨fun a b=>P4 _ _,fun a b c=>Zw _ _ _⟩
theorem P6 (x y:Int):Gq [] (.int x) (.int y)=some (x == y):=rfl
theorem Ab3 (a b c e:Int):Gq [] (.tup [.int a,.int b]) (.tup [.int c,.int e])=some (a == c && (b == e && true)):=rfl
theorem lt_int (n:Nat) (x y:Int):N3 (n+1) (.int x) (.int y)=some (decide (x < y)):=rfl
theorem Gf (e f:Val -> Val -> Option Bool) (x y:Val) (xs ys:List Val):lts e f (x :: xs) (y :: ys)=(match e x y with | some true=>lts e f xs ys | some false=>f x y | none=>none):=rfl
theorem Uv (n:Nat) (xs ys:List Val):N3 (n+1) (.tup xs) (.tup ys)=lts (Gq []) (N3 n) xs ys:=rfl
structure Dom (D:Val -> Prop):Prop where
  eq:∀ (H:Hp) a b,D a -> D b -> Gq H a b=some (decide (key a=key b))
  lt:∀ a b,D a -> D b -> N3 Gp a b=some (klt a b)
  anti:∀ a b,D a -> D b -> key a=key b -> a=b
noncomputable def DC (v:Val):Prop:=∃ a b c,v=.tup [.int a,.tup [.int b,.int c]]
theorem Zx (a b c:Int):key (.tup [.int a,.tup [.int b,.int c]])=[a,b,c]:=rfl
theorem Uw {a b:Val} (ha:DC a) (hb:DC b) (h:key a=key b):a=b:=by
  refine ex3 ha fun x1 x2 x3 zr3=>?_;subst zr3
  refine ex3 hb fun y1 y2 y3 zr3=>?_;subst zr3
  cases (show [x1,x2,x3]=[y1,y2,y3] from h);rfl
theorem Agp {a b:Val} (ha:DC a) (hb:DC b):N3 Gp a b=some (klt a b):=by
  refine ex3 ha fun x1 x2 x3 zr3=>?_;subst zr3
  refine ex3 hb fun y1 y2 y3 zr3=>?_;subst zr3
  show N3 (5+1) _ _=_
  rw [Uv,Gf,P6]
  show _=some (Hv [x1,x2,x3] [y1,y2,y3])
  by_cases q1:x1=y1
  · subst q1
    simp only [beq_self_eq_true]
    rw [Gf,Ab3]
    by_cases q2:x2=y2
    · subst q2
      by_cases q3:x3=y3
      · subst q3
        simp only [beq_self_eq_true,Bool.and_self]
        simp [lts,Hv]
      · have e3:(x3 == y3)=false:=by simpa using q3
        simp only [beq_self_eq_true,e3,Bool.false_and,Bool.and_false]
        show N3 (4+1) _ _=_
        rw [Uv,Gf,P6]
        simp only [beq_self_eq_true]
        rw [Gf,P6,e3]
        show some (decide (x3 < y3))=_
        by_cases q5:x3 < y3
        · simp [B8,q5]
        · have:y3 < x3:=by exact o67 q5 q3
          simp [B8,q5,this]
    · have e2:(x2 == y2)=false:=by simpa using q2
      simp only [e2,Bool.false_and]
      show N3 (4+1) _ _=_
      rw [Uv,Gf,P6,e2]
      show some (decide (x2 < y2))=_
      by_cases q5:x2 < y2
      · simp [B8,q5]
      · have:y2 < x2:=by exact o67 q5 q2
        simp [B8,q5,this]
  · have e1:(x1 == y1)=false:=by simpa using q1
    rw [e1]
    show some (decide (x1 < y1))=_
    by_cases q5:x1 < y1
    · simp [B8,q5]
    · have:y1 < x1:=by exact o67 q5 q1
      simp [B8,q5,this]
theorem Agq {H:Hp} {a b:Val} (ha:DC a) (hb:DC b):Gq H a b=some (decide (key a=key b)):=by
  refine ex3 ha fun x1 x2 x3 zr3=>?_;subst zr3
  refine ex3 hb fun y1 y2 y3 zr3=>?_;subst zr3
  have:Gq H (.tup [.int x1,.tup [.int x2,.int x3]]) (.tup [.int y1,.tup [.int y2,.int y3]])=some (x1 == y1 && ((x2 == y2 && (x3 == y3 && true)) && true)):=rfl
  rw [this]
  congr 1
  rw [Bool.eq_iff_iff,Zx,Zx];simp [and_assoc]
theorem Mi:Dom DC:=⟨fun _ _ _=>Agq,fun _ _=>Agp,fun _ _=>Uw⟩
section
variable {T:Tab} {Φ:Funs} {Γ:Env'} {H:Hp} {Q:Val -> Hp -> Prop} {E:Nat -> Hp -> Prop} {QS:Env' -> Hp -> Prop} {R:Val -> Hp -> Prop} {ES:Nat -> Env' -> Hp -> Prop}
theorem Kf {i c n:Nat} {fs:List (Nat × Val)} {v:Val} (h:H[i]?=some (.inst c fs)) (hf:fs.lookup n=some v):Wp (I7 (.loc i) n) H Q E=Q v H:=by
  have:I7 (.loc i) n H=.ok v H:=by
    unfold I7;rw [Dh];simp only [h,hf]
  unfold Wp;rw [this]
theorem Fa {l:Nat} {xs:List Val} {k:Int} {v:Val} {Q:Unit -> Hp -> Prop} (h:H[l]?=some (.list xs)) (h0:0 <= k) (h1:k < xs.length):Wp (Ax (.loc l) (.int k) v) H Q E=Q () (H.set l (.list (xs.set k.toNat v))):=by
  have:Ax (.loc l) (.int k) v H=.ok () (H.set l (.list (xs.set k.toNat v))):=by
    unfold Ax;simp only [h];exact if_pos ⟨h0,h1⟩
  unfold Wp;rw [this]
theorem Mj {l:Nat} {xs:List Val} (h:H[l]?=some (.list xs)) {k:Int} {v:Val} (h0:0 <= k) (hk:xs[k.toNat]?=some v):Wp (C5 (.loc l) (.int k)) H Q E=Q v H:=by
  have lt:=(List.getElem?_eq_some_iff.mp hk).1
  have:C5 (.loc l) (.int k) H=.ok v H:=by
    unfold C5;rw [Dh]
    simp only [h,Nk k xs.length h0 (by exact o14 h0 lt),Option.bind_some,hk]
  unfold Wp;rw [this]
theorem Gl {c:ME} {body:MSs} (I:Nat -> Env' -> Hp -> Prop) {n:Nat} (hn:n < Ql) (h:I n Γ H)
    (step:∀ n Γ H,I n Γ H -> wpE T Φ c Γ H (fun v H'=>Et v fun b=>brB b (wpSs T Φ body Γ H' (fun Γ' H''=>∃ m,m < n /\ I m Γ' H'') R NoX) (QS Γ H')) NoE):wpS T Φ (.loop c body) Γ H QS R ES:=by
  have main:∀ (f n:Nat) (Γ:Env') (H:Hp),n < f -> I n Γ H -> WpS (Iy (fun Γ=>(Am T Φ c Γ).bnd C8) (execSs T Φ body) f Γ H) QS R ES:=by
    intro f
    induction f with
    | zero=>intro n Γ H l;exact (o68 l).elim
    | succ f ih =>
      intro n Γ H l hI
      have w:=step n Γ H hI
      rw [<- Bf] at w
      have w':Wp ((Am T Φ c Γ).bnd C8) H (fun b H'=>brB b (wpSs T Φ body Γ H' (fun Γ' H''=>∃ m,m < n /\ I m Γ' H'') R NoX) (QS Γ H')) NoE:=by
        rw [Aw];simp only [Hr];exact w
      refine ex2 w'.get fun b H' zz=>Ad zz fun e q=>?_
      rw [Jq]
      rw [e]
      cases b with
      | false=>exact q
      | true =>
        dsimp only
        have q':wpSs T Φ body Γ H' (fun Γ' H''=>∃ m,m < n /\ I m Γ' H'') R NoX:=q
        rw [<- wpSs_eq] at q'
        cases hb:execSs T Φ body Γ H' with
        | bad=>rw [hb] at q';exact q'.elim
        | exc c' Γ2 H2=>rw [hb] at q';exact q'.elim
        | ret v H2=>rw [hb] at q';exact q'
        | next Γ2 H2 =>
          rw [hb] at q'
          refine ex1 q' fun m zz=>Ad zz fun lm hm=>?_
          exact ih m Γ2 H2 (by exact o69 l lm) hm
  exact main Ql n Γ H hn h
end
theorem Ux {Γ:Env'} {i:Nat} {v:Val} {k:Val -> Prop} (h:Γ[i]?=some (some v)):Pw Γ i k=k v:=by rw [Eu,h];rfl
theorem wvr {T:Tab} {Φ:Funs} {H:Hp} {Q:Val -> Hp -> Prop} {E:Nat -> Hp -> Prop} {Γ:Env'} {i:Nat} {v:Val} (h:Γ[i]?=some (some v)):wpE T Φ (.var i) Γ H Q E=Q v H:=Ux h
theorem wcv {T:Tab} {Φ:Funs} {H:Hp} {Q:List Val -> Hp -> Prop} {E:Nat -> Hp -> Prop} {Γ:Env'} {i:Nat} {v:Val} {es:MEs} (h:Γ[i]?=some (some v)):wpEs T Φ (.cons (.var i) es) Γ H Q E=wpEs T Φ es Γ H (fun vs H=>Q (v :: vs) H) E:=Ux h
theorem wsv {T:Tab} {Φ:Funs} {H:Hp} {Q:Val -> Hp -> Prop} {E:Nat -> Hp -> Prop} {Γ:Env'} {i j:Nat} {v w:Val} (h:Γ[i]?=some (some v)) (k:Γ[j]?=some (some w)):wpE T Φ (.sub (.var i) (.var j)) Γ H Q E=Wp (C5 v w) H Q E:=by rw [A8,wvr h,wvr k]
theorem wbf {T:Tab} {Φ:Funs} {H:Hp} {Q:Val -> Hp -> Prop} {E:Nat -> Hp -> Prop} {Γ:Env'} {f:BF} {i:Nat} {v:Val} (h:Γ[i]?=some (some v)):wpE T Φ (.bf f (.cons (.var i) .nil)) Γ H Q E=Wp (bfV f [v]) H Q E:=by rw [E7,wcv h,A5]
theorem wat {T:Tab} {Φ:Funs} {H:Hp} {Q:Val -> Hp -> Prop} {E:Nat -> Hp -> Prop} {Γ:Env'} {i o c n:Nat} {fs:List (Nat × Val)} {v:Val} (h:Γ[i]?=some (some (.loc o))) (f0:H[o]?=some (.inst c fs)) (f1:fs.lookup n=some v):wpE T Φ (.attr (.var i) n) Γ H Q E=Q v H:=by rw [D2,wvr h,Kf f0 f1]
theorem Aex (k:Nat) (h:0 < k):Int.fdiv ((k:Int) - 1) 2=((par k:Nat):Int):=by
  have:((k:Int) - 1)=((k - 1:Nat):Int):=by exact o70 h
  rw [this,Int.fdiv_eq_ediv_of_nonneg _ (by decide)]
  unfold par;exact o71
theorem Zy {D:Val -> Prop} (dom:Dom D) {a b:Val} (ha:D a) (hb:D b) {H:Hp} {k:Bool -> Prop}:Ea (Dy .lt a b H) k=k (klt a b):=B0 (show Dy .lt a b H=some (klt a b) from dom.lt a b ha hb) k
theorem Mk (H:Hp) (l:Nat) (a b:HObj):(H.set l a).set l b=H.set l b:=List.set_set ..
theorem Dw {α β γ:Type} (p:α -> β -> γ -> Prop):∃ q:α -> β -> γ -> Prop,∀ a b c,q a b c↔p a b c:=⟨p,fun _ _ _=>Iff.rfl⟩
inductive UInv (H:Hp) (l:Nat) (x0 x1:Val) (zs:List Val):Nat -> Env' -> Hp -> Prop
  | mk {n:Nat} (ys:List Val) (a b:Option Val) (hp:ys.Perm zs) (hu:Up klt ys n) (hn:n < ys.length):UInv H l x0 x1 zs n [some x0,some x1,some (.loc l),some (.int (n:Nat)),a,b] (H.set l (.list ys))
theorem Ab4 {T:Tab} {Φ:Funs} {H:Hp} {QS:Env' -> Hp -> Prop} {R:Val -> Hp -> Prop} {l n:Nat} {ys:List Val} {x y x0 x1:Val} {a b:Option Val} (g:H[l]?=some (.list ys)) (hpos:0 < n) (hx:ys[n]?=some x) (hy:ys[par n]?=some y)
    (q:QS [some x0,some x1,some (.loc l),some (.int (par n:Nat)),some (.int (par n:Nat)),some y] (H.set l (.list ((ys.set (par n) x).set n y)))) :
    wpSs T Φ (.cons (.assign 4 (.bin .fdiv (.bin .sub (.var 3) (.int 1)) (.int 2))) (.cons (.assign 5 (.sub (.var 2) (.var 4))) (.cons (.setitem (.var 2) (.var 4) (.sub (.var 2) (.var 3))) (.cons (.setitem (.var 2) (.var 3) (.var 5)) (.cons (.assign 3 (.var 4)) .nil)))))
      [some x0,some x1,some (.loc l),some (.int (n:Nat)),a,b] H QS R NoX:=by
  have ln:=(List.getElem?_eq_some_iff.mp hx).1
  have lp:=(List.getElem?_eq_some_iff.mp hy).1
  have hxn:ys[((n:Nat):Int).toNat]?=some x:=hx
  have hyn:ys[((par n:Nat):Int).toNat]?=some y:=hy
  refine ⟨by decide,?_⟩
  show Wp (C5 (.loc l) (.int (Int.fdiv ((n:Int) - 1) 2))) H _ _
  rw [Aex n hpos,Mj g (by exact o48) hyn]
  show Wp (C5 (.loc l) (.int (n:Int))) H _ _
  rw [Mj g (by exact o72 hpos) hxn]
  show Wp (Ax (.loc l) (.int (par n:Int)) x) H _ _
  rw [Fa g (by exact o48) (by exact o49 lp)]
  show Wp (Ax (.loc l) (.int (n:Int)) y) _ _ _
  rw [Fa (Bb _ g) (by exact o72 hpos) (by rw [List.length_set];exact o49 ln),Mk,Int.toNat_natCast,Int.toNat_natCast]
  exact q
theorem Uy (d:Nat) {D:Val -> Prop} (dom:Dom D) {i l:Nat} {v:Val} {xs:List Val} {H:Hp} (hi:H[i]?=some (.inst 8 [(4,.loc l)])) (hl:H[l]?=some (.list xs)) (hD:∀ x∈xs,D x) (hv:D v) (hp:Bt klt xs) (hn:xs.length < 1000) :
    Wp (Af T_11 (d+1) 30 [.loc i,v]) H (fun r H'=>r=.none /\ ∃ ys,H'=H.set l (.list ys) /\ ys.Perm (xs++[v]) /\ Bt klt ys) NoE:=by
  have hlid:lid=16777216:=rfl
  have hDz:∀ x∈xs++[v],D x:=fun x hx=>by
    rcases List.mem_append.mp hx with h | h
    · exact hD x h
    · cases List.mem_singleton.mp h;exact hv
  have up:=Up.put hp v
  rw [Ap (g:=Zn) rfl rfl]
  refine Ak (fun w K=>w=.loc l /\ H=K) ?_ ?_
  · show Wp (I7 (.loc i) 4) H _ _
    rw [Kf hi (show List.lookup 4 [(4,Val.loc l)]=some (.loc l) from rfl)]
    exact ⟨rfl,rfl⟩
  rintro _ _ ⟨rfl,rfl⟩
  refine Db (fun K=>K=H.set l (.list (xs++[v]))) ?_ ?_
  · refine E8 rfl hl ?_
    exact ⟨xs,hl,by exact o73 hn hlid,rfl⟩
  rintro _ rfl
  refine Ak (fun w K=>w=.int (xs.length:Nat) /\ H.set l (.list (xs++[v]))=K) ?_ ?_
  · show Wp (bfV .len [.loc l]) _ _ _
    rw [A2 (Bb _ hl),List.length_append]
    exact ⟨congrArg Val.int (by show ((xs.length+1:Nat):Int) - 1=_;exact o74),rfl⟩
  rintro _ _ ⟨rfl,rfl⟩
  obtain ⟨I,hI⟩:=Dw (UInv H l (.loc i) v (xs++[v]))
  refine Gl I (n:=xs.length) (by show xs.length < 2 ^ 40;omega) ((hI _ _ _).mpr (.mk (xs++[v]) _ _ (List.Perm.refl _) up (by simp))) ?_
  clear hi hp hv hD up
  intro n Γ K h
  obtain ⟨ys,a,b,hperm,hup,hlt⟩:=(hI _ _ _).mp h
  have g:(H.set l (.list ys))[l]?=some (.list ys):=Bb _ hl
  refine F9 (fun hpos=>?_) (fun hz=>?_)
  · have hpos':0 < n:=by exact o75 hpos
    have hpl:=Gd hpos'
    obtain ⟨x,hx⟩:∃ x,ys[n]?=some x:=⟨_,List.getElem?_eq_getElem hlt⟩
    obtain ⟨y,hy⟩:∃ y,ys[par n]?=some y:=⟨_,List.getElem?_eq_getElem (by exact o76 hlt hpl)⟩
    have hDy:∀ x∈ys,D x:=fun x hx=>hDz x (hperm.mem_iff.mp hx)
    show Wp (C5 (.loc l) (.int (n:Int))) _ _ _
    rw [Mj g (by exact o77 hpos) (show ys[((n:Nat):Int).toNat]?=some x from hx)]
    refine ⟨by decide,?_⟩
    show Wp (C5 (.loc l) (.int (Int.fdiv ((n:Int) - 1) 2))) _ _ _
    rw [Aex n hpos',Mj g (by exact o48) (show ys[((par n:Nat):Int).toNat]?=some y from hy)]
    show Ea (Dy .lt x y _) _
    rw [Zy dom (hDy x (List.mem_of_getElem? hx)) (hDy y (List.mem_of_getElem? hy))]
    refine A7 (fun hlt'=>?_) (fun hge=>?_)
    · refine Ab4 g hpos' hx hy ⟨par n,hpl,(hI _ _ _).mpr ?_⟩
      rw [Mk]
      exact .mk (Xn ys (par n) n y x) _ _ ((Nl hy hx).trans hperm) (Up.step Ge hpos' hup hx hy hlt') (by rw [Mh];exact o76 hlt hpl)
    · exact ⟨rfl,ys,rfl,hperm,hup.done (.inr fun x' y' hx' hy'=>by rw [hx] at hx';rw [hy] at hy';cases hx';cases hy';exact hge)⟩
  · exact ⟨rfl,ys,rfl,hperm,hup.done (.inl (by exact o78 hz))⟩
structure Only (l:Nat) (H H':Hp):Prop where
  keep:∀ m o,m≠l -> H[m]?=some o -> H'[m]?=some o
  len:H.length <= H'.length
theorem Only.refl (l:Nat) (H:Hp):Only l H H:=⟨fun _ _ _ h=>h,Nat.le_refl _⟩
theorem Only.trans {l:Nat} {H H1 H2:Hp} (a:Only l H H1) (b:Only l H1 H2):Only l H H2:=⟨fun m o n h=>b.keep m o n (a.keep m o n h),Nat.le_trans a.len b.len⟩
theorem Only.set {l:Nat} {H H':Hp} (a:Only l H H') (o:HObj):Only l H (H'.set l o):=⟨fun m ob n h=>by rw [List.getElem?_set_ne (fun q=>n q.symm)];exact a.keep m ob n h,by rw [List.length_set];exact a.len⟩
theorem Only.new {l:Nat} {H H':Hp} (a:Only l H H') (o:HObj):Only l H (H'++[o]):=⟨fun m ob n h=>by have:=a.keep m ob n h;rw [List.getElem?_append_left (Bq this)];exact this,by rw [List.length_append];have:=a.len;exact o79 this⟩
structure Small (ys:List Val) (k n:Nat) (m:Nat) (x:Val):Prop where
  at':ys[m]?=some x
  one:m=k \/ (0 < m /\ par m=k /\ ∀ y,ys[k]?=some y -> klt x y=true)
  all:∀ c,2 * k+1 <= c -> c < 2 * k+1+n -> ∀ z,ys[c]?=some z -> klt z x=false
theorem Small.start {ys:List Val} {k:Nat} {x:Val} (h:ys[k]?=some x):Small ys k 0 k x:=⟨h,.inl rfl,fun c h1 h2=>by exact (o80 h1 h2).elim⟩
theorem Small.stay {ys:List Val} {k n m:Nat} {x:Val} (h:Small ys k n m x) (hc:∀ z,ys[2 * k+1+n]?=some z -> klt z x=false):Small ys k (n+1) m x :=
  ⟨h.at',h.one,fun c h1 h2 z hz=>by
    by_cases q:c=2 * k+1+n
    · subst q;exact hc z hz
    · exact h.all c h1 (by exact o81 h2 q) z hz⟩
theorem Small.move {ys:List Val} {k n m:Nat} {x z:Val} (hn:n < 2) (h:Small ys k n m x) (hz:ys[2 * k+1+n]?=some z) (l:klt z x=true):Small ys k (n+1) (2 * k+1+n) z:=by
  refine ⟨hz,.inr ⟨by exact o82 hn,by unfold par;exact o83 hn,fun y hy=>?_⟩,fun c h1 h2 w hw=>?_⟩
  · rcases h.one with e | ⟨_,_,e⟩
    · have:=h.at';rw [e,hy] at this;cases this;exact l
    · cases q:klt z y with
      | true=>rfl
      | false =>
        have:=Ge.tr y z x q (Ge.asym _ _ l)
        rw [e y hy] at this;cases this
  · by_cases q:c=2 * k+1+n
    · subst q;rw [hz] at hw;cases hw;exact Ge.irr _
    · exact Ge.tr z x w (Ge.asym _ _ l) (h.all c h1 (by exact o81 h2 q) w hw)
theorem Small.children {ys:List Val} {k m:Nat} {x:Val} (h:Small ys k 2 m x):∀ c,0 < c -> par c=k -> ∀ z,ys[c]?=some z -> klt z x=false:=fun c hc e z hz=>h.all c (by unfold par at e;exact o84 e hc) (by unfold par at e;exact o85 e hc) z hz
section
variable {Φ:Funs} {H:Hp} {QS:Env' -> Hp -> Prop} {R:Val -> Hp -> Prop} {D:Val -> Prop} {i l k:Nat} {ys xs:List Val}
theorem Aey {j m:Nat} {xm:Val} {x0 x2 x3 x6:Option Val} (dom:Dom D) (hg:H[l]?=some (.list ys)) (hD:∀ x∈ys,D x) (hj:j < 2) (hsm:Small ys k j m xm)
    (q:∀ m x,Small ys k (j+1) m x -> QS [x0,some (.loc l),x2,x3,some (.int (m:Nat)),some (.int ((2 * k+1+j:Nat):Int)),x6] H) :
    wpSs T_11 Φ (.cons (.ite (.and (.cmp .lt (.var 5) (.bf .len (.cons (.var 1) .nil))) (.cmp .lt (.sub (.var 1) (.var 5)) (.sub (.var 1) (.var 4)))) (.cons (.assign 4 (.var 5)) .nil) .nil) .nil)
      [x0,some (.loc l),x2,x3,some (.int (m:Nat)),some (.int ((2 * k+1+j:Nat):Int)),x6] H QS R NoX:=by
  simp only [↓Ag,↓Bd,↓Bv,↓Cj,↓Fs,↓A4,↓E7,↓Al,↓A5,↓Az,↓A8,↓Dt,↓Ai,↓As]
  rw [A2 hg,Ox]
  refine F9 (fun hlt=>?_) (fun hge=>?_)
  · obtain ⟨z,hz⟩:∃ z,ys[2 * k+1+j]?=some z:=⟨_,List.getElem?_eq_getElem (by exact o86 hlt)⟩
    rw [Mj hg (v:=z) (by exact o87 hj) (by rw [Int.toNat_natCast];exact hz),Mj hg (v:=xm) (by exact o48) (by rw [Int.toNat_natCast];exact hsm.at'),Zy dom (hD z (List.mem_of_getElem? hz)) (hD xm (List.mem_of_getElem? hsm.at'))]
    refine A7 (fun h1=>?_) (fun h1=>?_)
    · exact q _ _ (hsm.move hj hz h1)
    · exact q _ _ (hsm.stay fun z' hz'=>by rw [hz] at hz';cases hz';exact h1)
  · exact q _ _ (hsm.stay fun z' hz'=>by have:=(List.getElem?_eq_some_iff.mp hz').1;exact (o88 this hge).elim)
theorem Ab5 {xk:Val} {x0 x3 x5 x6:Option Val} (dom:Dom D) (hg:H[l]?=some (.list ys)) (hD:∀ x∈ys,D x) (hxk:ys[k]?=some xk)
    (q:∀ m x b',Small ys k 2 m x -> QS [x0,some (.loc l),some (.int (k:Nat)),x3,some (.int (m:Nat)),b',x6] (H++[.list [.int (2 * (k:Int)+1),.int (2 * (k:Int)+2)]])) :
    wpS T_11 Φ (.each 5 (.list (.cons (.bin .add (.bin .mul (.int 2) (.var 2)) (.int 1)) (.cons (.bin .add (.bin .mul (.int 2) (.var 2)) (.int 2)) .nil))) (.cons (.ite (.and (.cmp .lt (.var 5) (.bf .len (.cons (.var 1) .nil))) (.cmp .lt (.sub (.var 1) (.var 5)) (.sub (.var 1) (.var 4)))) (.cons (.assign 4 (.var 5)) .nil) .nil) .nil)) [x0,some (.loc l),some (.int (k:Nat)),x3,some (.int (k:Nat)),x5,x6] H QS R NoX:=by
  apply C1
  simp only [↓Ga,↓Al,↓A5,↓B9,↓A3,↓Az,↓Dt,↓Ai,↓As,↓Gb,↓Kb]
  refine ⟨rfl,rfl,?_⟩
  rw [B0 (Bc (Aj _ _))]
  have g2:(H++[.list [.int (2 * (k:Int)+1),.int (2 * (k:Int)+2)]])[l]?=some (.list ys):=(Ext.refl H |>.new _).get hg
  have gn:=Aj H (.list [.int (2 * (k:Int)+1),.int (2 * (k:Int)+2)])
  generalize (H++[HObj.list [Val.int (2 * (k:Int)+1),Val.int (2 * (k:Int)+2)]])=H1 at *
  obtain ⟨I,hI⟩:=Dw (fun (j:Nat) (Γ:Env') (H2:Hp)=>H2=H1 /\ ∃ m x b',Γ=[x0,some (.loc l),some (.int (k:Nat)),x3,some (.int (m:Nat)),b',x6] /\ Small ys k j m x)
  refine B6 I ((hI _ _ _).mpr ⟨rfl,k,xk,x5,rfl,Small.start hxk⟩) ?_ ?_ ?_
  · intro Γ H2 h
    refine Ad ((hI _ _ _).mp h) fun zr0 zz=>ex3 zz fun m x b' zz=>Ad zz fun zr4 hsm=>?_;subst zr0;subst zr4
    exact q m x b' hsm
  · intro j Γ H2 _ h
    obtain ⟨rfl,_⟩:=(hI _ _ _).mp h
    exact Bk gn
  · clear q
    intro j x Γ H2 hx h
    refine Ad ((hI _ _ _).mp h) fun zr0 zz=>ex3 zz fun m xm b' zz=>Ad zz fun zr4 hsm=>?_;subst zr0;subst zr4
    have hj:j < 2 /\ x=.int ((2 * k+1+j:Nat):Int):=by
      match j,hx with
      | 0,hx=>cases hx;exact ⟨by decide,congrArg Val.int (by exact o89)⟩
      | 1,hx=>cases hx;exact ⟨by decide,congrArg Val.int (by exact o90)⟩
    obtain ⟨hj2,rfl⟩:=hj
    exact ⟨_,rfl,Aey dom g2 hD hj2 hsm fun m x h=>(hI _ _ _).mpr ⟨rfl,m,x,_,rfl,h⟩⟩
theorem Ab6 {m:Nat} {x xk:Val} {x0 x5 x6:Option Val} (hg:H[l]?=some (.list ys)) (hx:ys[m]?=some x) (hxk:ys[k]?=some xk)
    (q:QS [x0,some (.loc l),some (.int (m:Nat)),some (.bool (!decide ((m:Int)=(k:Int)))),some (.int (m:Nat)),x5,some xk] (H.set l (.list ((ys.set k x).set m xk)))) :
    wpSs T_11 Φ (.cons (.assign 3 (.cmp .ne (.var 4) (.var 2))) (.cons (.assign 6 (.sub (.var 1) (.var 2))) (.cons (.setitem (.var 1) (.var 2) (.sub (.var 1) (.var 4))) (.cons (.setitem (.var 1) (.var 4) (.var 6)) (.cons (.assign 2 (.var 4)) .nil)))))
      [x0,some (.loc l),some (.int (k:Nat)),some (.bool true),some (.int (m:Nat)),x5,x6] H QS R NoX:=by
  have lm:=(List.getElem?_eq_some_iff.mp hx).1
  have lk:=(List.getElem?_eq_some_iff.mp hxk).1
  have hx':ys[((m:Nat):Int).toNat]?=some x:=hx
  have hxk':ys[((k:Nat):Int).toNat]?=some xk:=hxk
  simp only [↓El,↓Ik,↓A3,↓Uc,↓wp_glob,↓Az,↓B9,↓Ca,↓Fs,↓Du,↓A4,↓Il,↓A8,↓Je,↓A9,↓Dd,↓Ga,↓J7,↓Ay,↓E7,↓Kw,↓By,↓A5,↓Al,↓D2,↓Cb,↓Py,↓Hs,↓Bv,↓Ag,↓Ev,↓Cj,↓Bw,↓Bd,↓J8,↓Fm,↓Be,↓Gb,↓Nj,↓Kb,↓G5,↓Kc,↓Ht,↓Ck,↓C7,↓Ov,↓Ow,↓Mg,↓Uf,↓Ox,↓Ug,↓Uh,↓Do,↓Cl,↓Di,↓C2,↓Ec,↓Dj,↓Im,↓G6,↓G7,↓Gc,↓G8,↓G9,↓Ha,↓Io,↓Ip,↓Dk,↓Iq,↓Ez,↓D3,↓Oy,↓Ai,↓Dt,↓Ua,↓As,↓Ac,↓Bo,↓C0,↓Bp,↓Ek,↓Nh,List.map_cons,List.map_nil,List.cons_append,List.nil_append,List.set_cons_zero,List.set_cons_succ,List.replicate_succ,List.replicate_zero,Bool.not_true,Bool.not_false,and_true,true_and,and_self]
  rw [Mj hg (by exact o48) hxk',Mj hg (by exact o48) hx',Fa hg (by exact o48) (by exact o49 lk),Fa (Bb _ hg) (by exact o48) (by rw [List.length_set];exact o49 lm),Mk,Int.toNat_natCast,Int.toNat_natCast]
  exact q
inductive SInv (H:Hp) (i l:Nat) (xs:List Val):Nat -> Env' -> Hp -> Prop
  | go {n:Nat} {K:Hp} (ys:List Val) (k:Nat) (a b c:Option Val) (ho:Only l H K) (hg:K[l]?=some (.list ys)) (hp:ys.Perm xs) (hd:Down klt ys k) (hk:k < ys.length) (hn:n=ys.length - k):SInv H i l xs n [some (.loc i),some (.loc l),some (.int (k:Nat)),some (.bool true),a,b,c] K
  | stop {n:Nat} {K:Hp} (ys:List Val) (k:Nat) (a b c:Option Val) (ho:Only l H K) (hg:K[l]?=some (.list ys)) (hp:ys.Perm xs) (pile:Bt klt ys):SInv H i l xs n [some (.loc i),some (.loc l),some (.int (k:Nat)),some (.bool false),a,b,c] K
theorem Xo (d:Nat) (dom:Dom D) (hil:i≠l) (hi:H[i]?=some (.inst 8 [(4,.loc l)])) (hl:H[l]?=some (.list xs)) (hD:∀ x∈xs,D x) (hp:Down klt xs 0) (h0:0 < xs.length) (hn:xs.length < 1000) :
    Wp (Af T_11 (d+1) 33 [.loc i]) H (fun r H'=>r=.none /\ Only l H H' /\ ∃ ys,H'[l]?=some (.list ys) /\ ys.Perm xs /\ Bt klt ys) NoE:=by
  rw [Ap (g:=Zp) rfl rfl]
  refine Ak (fun w K=>w=.loc l /\ H=K) ?_ ?_
  · show Wp (I7 (.loc i) 4) H _ _
    rw [Kf hi (show List.lookup 4 [(4,Val.loc l)]=some (.loc l) from rfl)]
    exact ⟨rfl,rfl⟩
  rintro _ _ ⟨rfl,rfl⟩
  refine Ak (fun w K=>w=.int (0:Nat) /\ H=K) ⟨rfl,rfl⟩ ?_
  rintro _ _ ⟨rfl,rfl⟩
  refine Ak (fun w K=>w=.bool true /\ H=K) ⟨rfl,rfl⟩ ?_
  rintro _ _ ⟨rfl,rfl⟩
  obtain ⟨I,hI⟩:=Dw (SInv H i l xs)
  refine Ce (fun Γ K=>Only l H K /\ ∃ ys,K[l]?=some (.list ys) /\ ys.Perm xs /\ Bt klt ys) ?_ (fun Γ K h=>⟨rfl,h⟩)
  refine Gl I (n:=xs.length) (by show xs.length < 2 ^ 40;omega) ((hI _ _ _).mpr (.go xs 0 _ _ _ (Only.refl _ _) hl (List.Perm.refl _) hp h0 rfl)) ?_
  clear hi hp hl
  intro n Γ K h
  rcases (hI _ _ _).mp h with ⟨ys,k,a,b,c,ho,hg,hperm,hdown,hk,hnn⟩ | ⟨ys,k,a,b,c,ho,hg,hperm,hpile⟩
  · have hDy:∀ x∈ys,D x:=fun x hx=>hD x (hperm.mem_iff.mp hx)
    obtain ⟨xk,hxk⟩:∃ x,ys[k]?=some x:=⟨_,List.getElem?_eq_getElem hk⟩
    refine Ak (fun w H2=>w=.int (k:Nat) /\ K=H2) ⟨rfl,rfl⟩ ?_
    rintro _ _ ⟨rfl,rfl⟩
    refine Ab5 dom hg hDy hxk fun m x b' hsm=>?_
    have hg2:=(Ext.refl K |>.new (.list [.int (2 * (k:Int)+1),.int (2 * (k:Int)+2)])).get hg
    have ho2:=ho.new (.list [.int (2 * (k:Int)+1),.int (2 * (k:Int)+2)])
    refine Ab6 hg2 hsm.at' hxk ?_
    have g3:∀ zs,(((K++[HObj.list [Val.int (2 * (k:Int)+1),Val.int (2 * (k:Int)+2)]])).set l (.list zs))[l]?=some (.list zs):=fun zs=>Bb _ hg2
    rcases hsm.one with rfl | ⟨m0,pm,hmk⟩
    · have exk:x=xk:=Option.some.inj (hsm.at'.symm.trans hxk)
      subst exk
      have same:(ys.set m x).set m x=ys:=by
        rw [List.set_set]
        apply List.ext_getElem?
        intro q
        by_cases e:m=q
        · subst e;rw [List.getElem?_set_self hk,hxk]
        · rw [List.getElem?_set_ne e]
      rw [same,show decide ((m:Int)=(m:Int))=true by simp]
      exact ⟨0,by exact o91 hk hnn,(hI _ _ _).mpr (.stop ys m _ _ _ (ho2.set _) (g3 _) hperm (hdown.done fun c hc e a b ha hb=>by rw [e,hxk] at hb;cases hb;exact hsm.children c hc e a ha))⟩
    · have pk:=Gd m0
      have lm:=(List.getElem?_eq_some_iff.mp hsm.at').1
      rw [show decide ((m:Int)=(k:Int))=false by simpa using fun q:(m:Int)=k=>by exact o92 q pk pm]
      exact ⟨ys.length - m,by exact o93 hk pk lm hnn pm,(hI _ _ _).mpr (.go (Xn ys k m xk x) m _ _ _ (ho2.set _) (g3 _) ((Nl hxk hsm.at').trans hperm) (Down.step Ge hdown m0 pm hxk hsm.at' (hmk xk hxk) hsm.children) (by rw [Mh];exact lm) (by rw [Mh]))⟩
  · exact ⟨ho,ys,hg,hperm,hpile⟩
end
theorem Kg {T:Tab} {H:Hp} {i c m k:Nat} {fs:List (Nat × Val)} {Q:Nat -> Hp -> Prop} {E:Nat -> Hp -> Prop} (h:H[i]?=some (.inst c fs)) (hk:T.meth c m=some k):Wp (C3 T (.loc i) m) H Q E=Q k H:=by
  have:C3 T (.loc i) m H=.ok k H:=by
    unfold C3;rw [Dh];simp only [h,hk]
  unfold Wp;rw [this]
theorem Uz {h:List Val} (p:Bt klt h):Bt klt h.dropLast:=by
  intro j hj x y hx hy
  have get:∀ (q:Nat) (z:Val),h.dropLast[q]?=some z -> h[q]?=some z:=fun q z hz=>by
    have lq:=(List.getElem?_eq_some_iff.mp hz).1
    rw [List.getElem?_dropLast,if_pos (by simpa using lq)] at hz
    exact hz
  exact p j hj x y (get _ _ hx) (get _ _ hy)
theorem U0 (m:Val) (t:List Val) (z:Val) (h:t.getLast?=some z):(((m :: t).dropLast).set 0 z).Perm t:=by
  cases t with
  | nil=>cases h
  | cons a t' =>
    have e:(m :: a :: t').dropLast=m :: (a :: t').dropLast:=rfl
    rw [e]
    show (z :: (a :: t').dropLast).Perm (a :: t')
    have e2:(a :: t')=(a :: t').dropLast++[z]:=by
      rw [List.getLast?_eq_some_getLast (by simp)] at h
      cases h
      exact (List.dropLast_concat_getLast (by simp)).symm
    rw [e2,List.dropLast_concat]
    exact (List.perm_append_singleton z _).symm
theorem Xp (d:Nat) {D:Val -> Prop} (dom:Dom D) {i l:Nat} {xs:List Val} {H:Hp} (hil:i≠l) (hi:H[i]?=some (.inst 8 [(4,.loc l)])) (hl:H[l]?=some (.list xs)) (hD:∀ x∈xs,D x) (hp:Bt klt xs) (hn:xs.length < 1000) (h0:xs≠[]) :
    Wp (Af T_11 (d+2) 32 [.loc i]) H (fun r H'=>∃ t ys,xs=r :: t /\ Only l H H' /\ H'[l]?=some (.list ys) /\ ys.Perm t /\ Bt klt ys) NoE:=by
  refine ex2 (List.exists_cons_of_ne_nil h0) fun m t zr2=>?_;subst zr2
  rw [Ap (g:=Zo) rfl rfl]
  refine Ak (fun w K=>w=.loc l /\ H=K) ?_ ?_
  · show Wp (I7 (.loc i) 4) H _ _
    rw [Kf hi (show List.lookup 4 [(4,Val.loc l)]=some (.loc l) from rfl)]
    exact ⟨rfl,rfl⟩
  rintro _ _ ⟨rfl,rfl⟩
  refine E9 (fun K=>H=K) ?_ ?_
  · show Wp (bfV .len [.loc l]) H _ _
    rw [A2 hl]
    rw [A3,Ow]
    exact ⟨congrArg Val.bool (decide_eq_false (by rw [List.length_cons];exact o94)),rfl⟩
  rintro _ rfl
  refine Ak (fun w K=>m=w /\ H=K) ?_ ?_
  · show Wp (C5 (.loc l) (.int 0)) H _ _
    rw [Mj hl (v:=m) (k:=0) (by decide) rfl]
    exact ⟨rfl,rfl⟩
  rintro _ _ ⟨rfl,rfl⟩
  obtain ⟨z,hz⟩:∃ z,(m :: t).getLast?=some z:=⟨_,List.getLast?_eq_some_getLast (by simp)⟩
  refine Ak (fun w K=>z=w /\ K=H.set l (.list (m :: t).dropLast)) ?_ ?_
  · show Ea (E2 .pop (.loc l) H) _
    rw [B0 (Xm hl)]
    exact Aer hl hz ⟨rfl,rfl⟩
  rintro _ H1 ⟨hr2,e1⟩;refine hr2▸?_
  have g1:H1[l]?=some (.list (m :: t).dropLast):=by rw [e1];exact Bb _ hl
  have o1:Only l H H1:=by rw [e1];exact (Only.refl l H).set _
  clear e1 hl
  show Wp (bfV .len [.loc l]) H1 _ _
  rw [A2 g1]
  cases t with
  | nil=>exact ⟨[],[],rfl,o1,g1,List.Perm.refl _,fun j hj x y hx=>by simp at hx⟩
  | cons a t' =>
    have hzl:(a :: t').getLast?=some z:=by simpa using hz
    have perm:=U0 m (a :: t') z hzl
    have len1:((m :: a :: t').dropLast).length=t'.length+1:=by simp
    have i2:(List.set H1 l (.list (((m :: a :: t').dropLast).set 0 z)))[i]?=some (.inst 8 [(4,.loc l)]):=(o1.set _).keep i _ hil hi
    rw [A3,Ug,len1]
    show brB (decide (0 < ((t'.length+1:Nat):Int))) _ _
    rw [D1 (by exact o95)]
    show Wp (Ax (.loc l) (.int 0) z) H1 _ _
    rw [Fa g1 (by decide) (by rw [len1];exact o95)]
    show Wp (C3 T_11 (.loc i) 9) (H1.set l (.list (((m :: a :: t').dropLast).set 0 z))) _ _
    rw [Kg i2 (show T_11.meth 8 9=some 33 from rfl)]
    refine (Xo d dom hil i2 (Bb _ g1) (fun x hx=>hD x (.tail _ (perm.mem_iff.mp hx))) (Down.top (Uz hp) z) (by rw [List.length_set,len1];exact o96) (by rw [List.length_set];simp at hn;exact o97 hn len1)).then ?_
    intro _ H3 zz
    refine Av zz fun zr0 o3 zz=>ex1 zz fun ys zz=>Av zz fun g3 p3 pile3=>?_;subst zr0
    exact ⟨a :: t',ys,rfl,(o1.set _).trans o3,g3,p3.trans perm,pile3⟩
theorem Xq (d:Nat) {i l:Nat} {xs:List Val} {H:Hp} (hi:H[i]?=some (.inst 8 [(4,.loc l)])) (hl:H[l]?=some (.list xs)) :
    Wp (Af T_11 (d+1) 34 [.loc i]) H (fun r H'=>H'=H /\ r=.int (xs.length:Nat)) NoE:=by
  rw [Ap (g:=Ut) rfl rfl,Ut]
  simp only [↓El,↓Ik,↓A3,↓Uc,↓wp_glob,↓Az,↓B9,↓Ca,↓Fs,↓Du,↓A4,↓Il,↓A8,↓Je,↓A9,↓Dd,↓Ga,↓J7,↓Ay,↓E7,↓Kw,↓By,↓A5,↓Al,↓D2,↓Cb,↓Py,↓Hs,↓Bv,↓Ag,↓Ev,↓Cj,↓Bw,↓Bd,↓J8,↓Fm,↓Be,↓Gb,↓Nj,↓Kb,↓G5,↓Kc,↓Ht,↓Ck,↓C7,↓Ov,↓Ow,↓Mg,↓Uf,↓Ox,↓Ug,↓Uh,↓Do,↓Cl,↓Di,↓C2,↓Ec,↓Dj,↓Im,↓G6,↓G7,↓Gc,↓G8,↓G9,↓Ha,↓Io,↓Ip,↓Dk,↓Iq,↓Ez,↓D3,↓Oy,↓Ai,↓Dt,↓Ua,↓As,↓Ac,↓Bo,↓C0,↓Bp,↓Ek,↓Nh,List.map_cons,List.map_nil,List.cons_append,List.nil_append,List.set_cons_zero,List.set_cons_succ,List.replicate_succ,List.replicate_zero,Bool.not_true,Bool.not_false,and_true,true_and,and_self,Kf hi (show List.lookup 4 [(4,Val.loc l)]=some (.loc l) from rfl),A2 hl]
theorem Ab7 (d:Nat) (H:Hp) {Q:Val -> Hp -> Prop} {E:Nat -> Hp -> Prop} (q:Q (.loc H.length) (H++[.inst 8 [(4,.loc (H.length+1))],.list []])) :
    Wp (Qk T_11 (Af T_11 (d+1)) 8 []) H Q E:=by
  have e:Qk T_11 (Af T_11 (d+1)) 8 [] H=.ok (.loc H.length) (H++[.inst 8 [(4,.loc (H.length+1))],.list []]):=by
    unfold Qk
    show M.bnd _ _ _=_
    rw [D4 (show M.alloc (.inst 8 []) H=.ok (.loc H.length) (H++[.inst 8 []]) from rfl)]
    have c:Af T_11 (d+1) 29 [.loc H.length] (H++[.inst 8 []])=.ok .none (H++[.inst 8 [(4,.loc (H.length+1))],.list []]):=by
      have w:Wp (Af T_11 (d+1) 29 [.loc H.length]) (H++[.inst 8 []]) (fun r H'=>r=.none /\ H'=H++[.inst 8 [(4,.loc (H.length+1))],.list []]) NoE:=by
        rw [Ap (g:=Us) rfl rfl,Us]
        simp only [↓El,↓Ik,↓A3,↓Uc,↓wp_glob,↓Az,↓B9,↓Ca,↓Fs,↓Du,↓A4,↓Il,↓A8,↓Je,↓A9,↓Dd,↓Ga,↓J7,↓Ay,↓E7,↓Kw,↓By,↓A5,↓Al,↓D2,↓Cb,↓Py,↓Hs,↓Bv,↓Ag,↓Ev,↓Cj,↓Bw,↓Bd,↓J8,↓Fm,↓Be,↓Gb,↓Nj,↓Kb,↓G5,↓Kc,↓Ht,↓Ck,↓C7,↓Ov,↓Ow,↓Mg,↓Uf,↓Ox,↓Ug,↓Uh,↓Do,↓Cl,↓Di,↓C2,↓Ec,↓Dj,↓Im,↓G6,↓G7,↓Gc,↓G8,↓G9,↓Ha,↓Io,↓Ip,↓Dk,↓Iq,↓Ez,↓D3,↓Oy,↓Ai,↓Dt,↓Ua,↓As,↓Ac,↓Bo,↓C0,↓Bp,↓Ek,↓Nh,List.map_cons,List.map_nil,List.cons_append,List.nil_append,List.set_cons_zero,List.set_cons_succ,List.replicate_succ,List.replicate_zero,Bool.not_true,Bool.not_false,and_true,true_and,and_self]
        have g:((H++[HObj.inst 8 []])++[HObj.list []])[H.length]?=some (.inst 8 []):=((Ext.refl _).new _).get (Aj _ _)
        have st:Bx (.loc H.length) 4 (.loc (H++[HObj.inst 8 []]).length) ((H++[HObj.inst 8 []])++[HObj.list []])=.ok () (((H++[HObj.inst 8 []])++[HObj.list []]).set H.length (HObj.inst 8 [(4,.loc (H++[HObj.inst 8 []]).length)])):=by
          unfold Bx;simp only [g];rfl
        refine Wp.of_eq st ?_
        simp
      refine Ah fun G kG=>?_
      refine ex2 w.get fun r H' zz=>Av zz fun e1 zr3 zr4=>?_;subst zr3;subst zr4
      refine kG ?_
      exact e1
    rw [D4 c]
    rfl
  exact Wp.of_eq e q
end Mine.Internal.Pure
namespace Mine.Internal.Pure
open PySem
section
variable {H:Hp} {Q:Val -> Hp -> Prop} {E:Nat -> Hp -> Prop} {d:Nat}
noncomputable def HV (v:Val):Prop:=v=.none \/ ∃ i:Int,v=.int i /\ 0 <= i /\ i <= 1000000000
theorem Ab8:T_11.globs[0]?=some (.int 30):=rfl
theorem Ab9:T_11.globs[1]?=some (.int 1000000000):=rfl
theorem Hw {x lo hi:Int} (h1:lo <= x) (h2:x <= hi):Wp (Af T_11 (d+1) 0 [.int x,.int lo,.int hi]) H Q E=Q (.bool true) H:=by
  rw [Ap (g:=Rl) rfl rfl,Rl]
  simp only [List.map_cons,List.map_nil,List.replicate_zero,List.cons_append,List.nil_append,↓Ag,↓Bd,↓Du,↓Ca,↓By,↓Az,↓Ai,↓Ec,↓Ac,↓Ek,↓C0,↓Dj,↓Bp,↓Bv,↓Bw,↓A9,↓Il,↓As,↓Uh,decide_eq_true h1,decide_eq_true h2]
theorem Xr {r c i j:Int} (h1:0 <= i) (h2:i < r) (h3:0 <= j) (h4:j < c):Wp (Af T_11 (d+2) 1 [.int r,.int c,.tup [.int i,.int j]]) H Q E=Q (.bool true) H:=by
  rw [Ap (g:=O1) rfl rfl,O1]
  simp only [List.map_cons,List.map_nil,List.replicate_zero,List.cons_append,List.nil_append,↓Ag,↓Bd,↓Du,↓Ca,↓By,↓Az,↓As,↓Ai,↓Dk,↓Ac,↓Ek,↓C0,↓A4,↓E7,↓Al,↓A5,↓C7,↓A3,↓Mg,↓Bv,↓Bw,↓A9,↓Fs,↓Ay,↓A8,↓Ez,↓B9,↓Nj,↓D3,↓Ik]
  rw [Hw h1 (by exact o98 h2),Ac,C0,Hw h3 (by exact o98 h4)]
  rfl
theorem Lj {v:Val} (h:HV v):Wp (Af T_11 (d+2) 4 [v]) H Q E=Q (.bool true) H:=by
  rw [Ap (g:=Aby) rfl rfl,Aby]
  rcases h with rfl | ⟨i,rfl,h1,h2⟩
  · simp only [List.map_cons,List.map_nil,List.replicate_zero,List.cons_append,List.nil_append,↓Ag,↓Bw,↓A9,↓Du,↓A4,↓Az,↓Ai,↓El,↓Do,↓Ac,↓C0]
  · simp only [List.map_cons,List.map_nil,List.replicate_zero,List.cons_append,List.nil_append,↓Ag,↓Bw,↓A9,↓Du,↓A4,↓Az,↓Ai,↓El,↓Cl,↓Ac,↓Bp,↓Ay,↓Al,↓A3,↓wp_glob,Ab9,↓A5,↓Bo]
    exact Hw h1 h2
theorem Adf (i:Int):Wp (Af T_11 (d+1) 9 [.int i]) H Q E=Q (.bool true) H:=by
  rw [Ap (g:=Ab2) rfl rfl,Ab2]
  simp only [List.map_cons,List.map_nil,List.replicate_zero,List.cons_append,List.nil_append,↓Ag,↓Bw,↓A9,↓Fs,↓By,↓Az,↓Ai,↓Ec,↓Ac,↓C0,↓Ca,↓Dj,Bool.not_false]
end
noncomputable def Gx (ns:List Int) (k:Nat):Int:=ns.getD k 0
section
variable {H:Hp} {Q:Val -> Hp -> Prop} {E:Nat -> Hp -> Prop} {d:Nat}
theorem Np {ns:List Int} {k:Nat} (h:k < ns.length):Wp (C5 (.script ns) (.int (k:Int))) H Q E=Q (.int (ns.getD k 0)) H:=by
  have e:ns[k]?=some (ns.getD k 0):=by rw [List.getD_eq_getElem?_getD,List.getElem?_eq_getElem h];rfl
  rw [Rk e];rfl
theorem Ew (ns:List Int) (k:Nat):Wp (Af T_11 (d+1) 8 [.script ns,.int (k:Int)]) H Q E=Q (.int (Gx ns k)) H:=by
  rw [Ap (g:=Ab1) rfl rfl,Ab1]
  simp only [List.map_cons,List.map_nil,List.replicate_zero,List.cons_append,List.nil_append,↓Ag,↓Bd,↓A4,↓Az,↓As,↓Ai,↓E7,↓Al,↓A5,↓Ck,↓Ox,↓Ac,↓Bw,↓A9,↓A8,↓Bv,↓A3]
  by_cases q:(k:Int) < ns.length
  · rw [D1 q,Np (by exact o43 q)];rfl
  · rw [Cq q]
    show Q (.int 0) H=_
    rw [show Gx ns k=0 by unfold Gx;rw [List.getD_eq_getElem?_getD,List.getElem?_eq_none (by exact o99 q)];rfl]
noncomputable def OkS (r c:Nat):Prop:=1 <= r /\ r <= 30 /\ 1 <= c /\ c <= 30
theorem Cm (a:Int) (n:Nat) (h:0 < n):∃ k:Nat,Int.fmod a n=k /\ k < n:=by
  have h1:=Int.fmod_nonneg_of_pos a (show (0:Int) < n by exact Agz h)
  have h2:=Int.fmod_lt_of_pos a (show (0:Int) < n by exact Agz h)
  exact ⟨(Int.fmod a n).toNat,by exact Aib h1,by exact Aic h1 h2⟩
theorem Ml {b:Bool} {A B A' B':Prop} (h:brB b A B) (h1:A -> A') (h2:B -> B'):brB b A' B':=by
  cases b
  · exact h2 h
  · exact h1 h
theorem Aez (n:Int) (k:Int) (hk:0 <= k):∃ v,HV v /\ ∀ (H:Hp),Wp (Af T_11 (d+1) 11 [.int n,.int k]) H (fun w H'=>w=v /\ H'=H) NoE:=by
  refine Ah fun G kG=>?_
  refine ex1 (Cm (Int.fdiv n 9) 3 (by decide)) fun a zz=>Ad zz fun ha la=>?_
  refine ex1 (Cm (Int.fdiv n 9) 12 (by decide)) fun b zz=>Ad zz fun hb lb=>?_
  refine ex1 (Cm (Int.fdiv n 9) 1000000001 (by decide)) fun c zz=>Ad zz fun hc lc=>?_
  refine ex1 (Cm (Int.fdiv n 9) 2 (by decide)) fun e zz=>Ad zz fun he le=>?_
  refine kG ?_
  have st:∀ (v:Val) (H:Hp),brB (decide (Int.fmod n 9=8)) (Val.none=v) (brB (decide (k=0)) (Val.int a=v) (brB (decide (k=1)) (Val.int b=v) (brB (decide (k=2)) (Val.int c=v) (Val.int (1000000000 - e)=v)))) -> Wp (Af T_11 (d+1) 11 [.int n,.int k]) H (fun w H'=>w=v /\ H'=H) NoE:=fun v H h=>by
    rw [Ap (g:=Zd) rfl rfl]
    refine ⟨by decide,?_⟩
    show brB (decide (Int.fmod n 9=8)) (Val.none=v /\ H=H) (brB (decide (k=0)) (_ /\ _ /\ (Val.int (Int.fmod (Int.fdiv n 9) ((3:Nat):Int))=v /\ H=H)) (brB (decide (k=1)) (_ /\ _ /\ (Val.int (Int.fmod (Int.fdiv n 9) ((12:Nat):Int))=v /\ H=H)) (brB (decide (k=2)) (_ /\ _ /\ (Val.int (Int.fmod (Int.fdiv n 9) ((1000000001:Nat):Int))=v /\ H=H)) (_ /\ _ /\ (Val.int (1000000000 - Int.fmod (Int.fdiv n 9) ((2:Nat):Int))=v /\ H=H)))))
    rw [ha,hb,hc,he]
    refine Ml h (fun h=>⟨h,rfl⟩) fun h=>Ml h (fun h=>⟨by decide,by decide,h,rfl⟩) fun h=>Ml h (fun h=>⟨by decide,by decide,h,rfl⟩) fun h=>Ml h (fun h=>⟨by decide,by decide,h,rfl⟩) fun h=>⟨by decide,by decide,h,rfl⟩
  by_cases q:Int.fmod n 9=8
  · exact ⟨.none,.inl rfl,fun H=>st _ H (by rw [D1 q])⟩
  by_cases q0:k=0
  · exact ⟨.int a,.inr ⟨a,rfl,by exact Aid la,by exact Aie la⟩,fun H=>st _ H (by rw [Cq q,D1 q0])⟩
  by_cases q1:k=1
  · exact ⟨.int b,.inr ⟨b,rfl,by exact Aif lb,by exact Aig lb⟩,fun H=>st _ H (by rw [Cq q,Cq q0,D1 q1])⟩
  by_cases q2:k=2
  · exact ⟨.int c,.inr ⟨c,rfl,by exact Aih lc,by exact Aii lc⟩,fun H=>st _ H (by rw [Cq q,Cq q0,Cq q1,D1 q2])⟩
  · exact ⟨.int (1000000000 - (e:Int)),.inr ⟨_,rfl,by exact Aij le,by exact Aik le⟩,fun H=>st _ H (by rw [Cq q,Cq q0,Cq q1,Cq q2])⟩
theorem Rm (ns:List Int) (k:Nat) (hk:k <= 900):∃ n:Int,∀ (H:Hp),Wp (Af T_11 (d+2) 12 [.script ns,.int (k:Int)]) H (fun w H'=>w=.int n /\ H'=H) NoE:=by
  have sm:Eo (k:Int)=true:=by unfold Eo;simp;exact Ail hk
  by_cases q:(k:Int)+3 < ns.length
  · refine ⟨ns.getD (k+3) 0,fun H=>?_⟩
    rw [Ap (g:=No) rfl rfl,No]
    simp only [List.map_cons,List.map_nil,List.replicate_zero,List.cons_append,List.nil_append,↓Ag,↓Bd,↓A4,↓B9,↓Az,↓As,↓Ai,↓A3,↓Gb,↓E7,↓Al,↓A5,↓Ck,↓Ox,↓Ac,↓Bw,↓A9,↓A8,↓Bv,↓Ay,↓Kb]
    rw [D1 q,show (k:Int)+3=((k+3:Nat):Int) by exact Aim,Np (by exact Ain q)]
    exact ⟨rfl,rfl⟩
  · refine ⟨7 * Gx ns 1+Gx ns 2 * k * k+13 * k,fun H=>?_⟩
    rw [Ap (g:=No) rfl rfl,No]
    simp only [List.map_cons,List.map_nil,List.replicate_zero,List.cons_append,List.nil_append,↓Ag,↓Bd,↓A4,↓B9,↓Az,↓As,↓Ai,↓A3,↓Gb,↓E7,↓Al,↓A5,↓Ck,↓Ox,↓Ac,↓Bw,↓A9,↓A8,↓Bv,↓Ay,↓Kb]
    rw [Cq q]
    show Wp (Af T_11 (d+1) 8 [.script ns,.int ((1:Nat):Int)]) H _ _
    rw [Ew]
    refine ⟨rfl,?_⟩
    show Wp (Af T_11 (d+1) 8 [.script ns,.int ((2:Nat):Int)]) H _ _
    rw [Ew]
    refine ⟨by rw [sm,Bool.or_true],by rw [sm,Bool.or_true],rfl,rfl,rfl⟩
end
structure GAt (H:Hp) (l b s:Nat) (g:List (List Val)):Prop where
  top:H[l]?=some (.list ((List.range g.length).map fun i=>.loc (b+s * i)))
  row:∀ i r,g[i]?=some r -> H[b+s * i]?=some (.list r)
theorem GAt.ext {H H':Hp} {l b s:Nat} {g:List (List Val)} (x:GAt H l b s g) (e:Ext H H'):GAt H' l b s g:=⟨e.get x.top,fun i r h=>e.get (x.row i r h)⟩
theorem GAt.other {H:Hp} {l b s m:Nat} {g:List (List Val)} (x:GAt H l b s g) (o:HObj) (h1:m≠l) (h2:∀ i,i < g.length -> m≠b+s * i):GAt (H.set m o) l b s g :=
  ⟨Ao o h1 x.top,fun i r h=>Ao o (h2 i (List.getElem?_eq_some_iff.mp h).1) (x.row i r h)⟩
theorem GAt.item {H:Hp} {l b s:Nat} {g:List (List Val)} (x:GAt H l b s g) {i:Nat} (h:i < g.length):((List.range g.length).map fun i=>Val.loc (b+s * i))[i]?=some (.loc (b+s * i)):=by
  rw [List.getElem?_map,List.getElem?_range h];rfl
section
variable {T:Tab} {Φ:Funs} {Γ:Env'} {H:Hp} {Q:Val -> Hp -> Prop} {E:Nat -> Hp -> Prop}
theorem Hx {chk:Hp -> Bool} {step:Val -> M (Option Val)} {Q:List Val -> Hp -> Prop} {xs:List Val} (I:Nat -> List Val -> Hp -> Prop) (h0:I 0 [] H) (hc:∀ k out H,I k out H -> chk H=true)
    (hs:∀ k x out H,xs[k]?=some x -> I k out H -> Wp (step x) H (fun r H=>I (k+1) (out++r.toList) H) E) (hd:∀ zs H,I xs.length zs H -> Q zs H):Wp (Fe chk step xs) H Q E:=by
  refine P0 (fun ys out H=>∃ k,ys=xs.drop k /\ k <= xs.length /\ I k out H) xs [] H ⟨0,rfl,Nat.zero_le _,h0⟩ ?_ ?_ ?_
  · rintro ys out H ⟨k,_,_,h⟩;exact hc k out H h
  · intro x ys out H zz
    refine ex1 zz fun k zz=>Av zz fun e l h=>?_
    have hx:xs[k]?=some x:=by
      have:=congrArg (fun z=>z[0]?) e
      simpa using this.symm
    refine (hs k x out H hx h).mono ?_ (fun _ _ h=>h)
    intro r H h
    refine ⟨k+1,?_,(List.getElem?_eq_some_iff.mp hx).1,h⟩
    have:=congrArg List.tail e
    simpa using this
  · intro zs H zz
    refine ex1 zz fun k zz=>Av zz fun e l h=>?_
    have:k=xs.length:=by
      have:=congrArg List.length e
      simp at this;exact o50 this l
    subst this;exact hd _ _ h
theorem Nq {elt it:ME} {xs:List Val} {src:Option Nat} (P:Nat -> Val -> Prop) (hit:wpE T Φ it Γ H (fun v H'=>H'=H /\ Cr v H=some (xs,src)) NoE) (hck:chk src xs H=true) (hz:xs.length < lid)
    (he:∀ k x,xs[k]?=some x -> wpE T Φ elt (Γ++[some x]) H (fun v H'=>P k v /\ H'=H) NoE) (q:∀ ys,ys.length=xs.length -> (∀ k v,ys[k]?=some v -> P k v) -> Q (.loc H.length) (H++[.list ys])):wpE T Φ (.comp elt it .none) Γ H Q E:=by
  refine Ka (Ba hit ?_)
  rintro v H' ⟨e,hi⟩
  rw [e,hi]
  clear e
  refine Hx (fun k out H'=>H'=H /\ out.length=k /\ ∀ j v,out[j]?=some v -> P j v) ⟨rfl,rfl,fun j v h=>by cases h⟩ ?_ ?_ ?_
  · rintro k out _ ⟨hr0,_⟩;refine Eq.symm hr0▸?_;exact hck
  · rintro k x out _ hx ⟨hr1,hl,hp⟩;refine Eq.symm hr1▸?_
    refine Mf (Ba (he k x hx) ?_)
    rintro v _ ⟨hv,hr2⟩;refine hr2▸?_
    refine ⟨rfl,by rw [List.length_append,hl];rfl,fun j w hj=>?_⟩
    by_cases c:j < out.length
    · rw [List.getElem?_append_left c] at hj;exact hp j w hj
    · rw [List.getElem?_append_right (by exact Ag0 hl c)] at hj
      have:j - out.length=0:=by
        have:=(List.getElem?_eq_some_iff.mp hj).1
        simp at this;omega
      rw [this] at hj
      cases hj
      have:j=k:=by exact Ag1 this hl c
      rw [this];exact hv
  · rintro zs _ ⟨hr3,hl,hp⟩;refine Eq.symm hr3▸?_
    have hl:zs.length=xs.length:=hl
    exact ⟨by omega,q zs hl hp⟩
theorem U1 {elt it:ME} {xs:List Val} {src:Option Nat} (s:Nat) (P:Nat -> List Val -> Prop) (hit:wpE T Φ it Γ H (fun v H'=>H'=H /\ Cr v H=some (xs,src)) NoE) (hck:∀ K,Ext H K -> chk src xs K=true) (hz:xs.length < lid)
    (he:∀ k x K,xs[k]?=some x -> Ext H K -> wpE T Φ elt (Γ++[some x]) K (fun v K'=>∃ r,P k r /\ v=.loc (K.length+s) /\ Ext K K' /\ K'.length=K.length+s+1 /\ K'[K.length+s]?=some (.list r)) NoE)
    (q:∀ g K,g.length=xs.length -> (∀ k r,g[k]?=some r -> P k r) -> Ext H K -> GAt K (H.length+(s+1) * g.length) (H.length+s) (s+1) g -> K.length=H.length+(s+1) * g.length+1 -> Q (.loc (H.length+(s+1) * g.length)) K):wpE T Φ (.comp elt it .none) Γ H Q E:=by
  refine Ka (Ba hit ?_)
  rintro v H' ⟨e,hi⟩
  rw [e,hi]
  clear e
  refine Hx (fun k out K=>Ext H K /\ K.length=H.length+(s+1) * k /\ out=(List.range k).map (fun i=>Val.loc (H.length+s+(s+1) * i)) /\ ∃ g:List (List Val),g.length=k /\ (∀ j r,g[j]?=some r -> P j r /\ K[H.length+s+(s+1) * j]?=some (.list r)))
    ⟨Ext.refl H,rfl,rfl,[],rfl,fun j r h=>by cases h⟩ ?_ ?_ ?_
  · rintro k out K ⟨e,_⟩;exact hck K e
  · intro k x out K hx zz
    refine Cg zz fun e hl zr2 zz=>ex1 zz fun g zz=>Ad zz fun hg hp=>?_;subst zr2
    refine Mf (Ba (he k x K hx e) ?_)
    intro v K' zz
    refine ex1 zz fun r zz=>Fc zz fun pr zr2 e' hl' hr=>?_;subst zr2
    have pos:K.length+s=H.length+s+(s+1) * k:=by exact Aio hl
    refine ⟨e.trans e',by rw [hl',hl,Nat.mul_succ];exact Aip,?_,g++[r],by rw [List.length_append,hg];rfl,fun j w hj=>?_⟩
    · rw [List.range_succ,List.map_append,pos];rfl
    · by_cases c:j < g.length
      · rw [List.getElem?_append_left c] at hj
        exact ⟨(hp j w hj).1,e'.get (hp j w hj).2⟩
      · rw [List.getElem?_append_right (by exact Ag0 hg c)] at hj
        have:j - g.length=0:=by
          have:=(List.getElem?_eq_some_iff.mp hj).1
          simp at this;omega
        rw [this] at hj
        cases hj
        have:j=k:=by exact Ag1 this hg c
        rw [this,<- pos];exact ⟨pr,hr⟩
  · intro zs K zz
    refine Cg zz fun e hl zr2 zz=>ex1 zz fun g zz=>Ad zz fun hg hp=>?_;subst zr2
    have gl:g.length=xs.length:=hg
    refine ⟨by rw [List.length_map,List.length_range];exact hz,?_⟩
    rw [hl,<- gl]
    refine q g _ gl (fun k r h=>(hp k r h).1) (e.new _) ⟨?_,fun i r h=>Ext.get ⟨_,rfl⟩ (hp i r h).2⟩ (by rw [List.length_append,hl,<- gl];rfl)
    have:=Aj K (.list ((List.range g.length).map fun i=>Val.loc (H.length+s+(s+1) * i)))
    rw [hl,<- gl] at this
    exact this
theorem Ae0 {it:ME} {n:Nat} (hn:n <= 1000) (h:wpE T Φ it Γ H (fun v H'=>v=.int (n:Int) /\ H'=H) NoE):wpE T Φ (.bf .range (.cons it .nil)) Γ H (fun v H'=>H'=H /\ Cr v H=some (V0 n,none)) NoE:=by
  rw [E7,Al]
  refine Ba h ?_
  rintro v _ ⟨rfl,rfl⟩
  rw [A5,Ht]
  exact ⟨⟨by exact Aiq hn,by exact Air hn⟩,rfl,rfl⟩
theorem Xs {n k:Nat} {x:Val} (h:(V0 n)[k]?=some x):x=.int (k:Int) /\ k < n:=by
  obtain ⟨a,b⟩:=P1 h
  exact ⟨a,by exact o43 b⟩
theorem P7 (n:Nat):(V0 n).length=n:=by rw [P2];exact Ais
theorem O2 {it:ME} {k l b s:Nat} {g:List (List Val)} (hk:Γ.length=k) (G:GAt H l b s g) (hz:g.length < lid) (hit:wpE T Φ it Γ H (fun v H'=>v=.loc l /\ H'=H) NoE)
    (q:∀ K,Ext H K -> GAt K (H.length+g.length) H.length 1 g -> K.length=H.length+g.length+1 -> Q (.loc (H.length+g.length)) K):wpE T Φ (.comp (.bf .list (.cons (.var k) .nil)) it .none) Γ H Q E:=by
  refine U1 (xs:=(List.range g.length).map fun i=>Val.loc (b+s * i)) (src:=some l) 0 (fun j r=>g[j]?=some r) (Ba hit ?_) (fun K e=>Bk (e.get G.top)) (by rw [List.length_map,List.length_range];exact hz) ?_ ?_
  · rintro v _ ⟨rfl,rfl⟩;exact ⟨rfl,Bc G.top⟩
  · intro j x K hx e
    rw [List.getElem?_map] at hx
    cases hj:(List.range g.length)[j]? with
    | none=>rw [hj] at hx;cases hx
    | some i =>
      rw [hj] at hx
      obtain ⟨lt,ej⟩:=List.getElem?_eq_some_iff.mp hj
      rw [List.getElem_range] at ej
      subst ej
      cases hx
      have lt':j < g.length:=by rw [List.length_range] at lt;exact lt
      have hg:g[j]?=some g[j]:=List.getElem?_eq_getElem lt'
      have hr:=e.get (G.row j _ hg)
      rw [E7,Al,Az,Eu,List.getElem?_append_right (by exact Ag2 hk),hk,Nat.sub_self]
      have:bfV .list [.loc (b+s * j)] K=.ok (.loc K.length) (K++[.list g[j]]):=by
        show (match Cc (.loc (b+s * j)) K with | some xs=>M.alloc (.list xs) K | none=>.bad)=_
        rw [show Cc (.loc (b+s * j)) K=some g[j] by simp only [Cc,hr]];rfl
      exact Wp.of_eq this ⟨_,hg,rfl,⟨_,rfl⟩,by rw [List.length_append];rfl,Aj K _⟩
  · intro g' K hl hp e G' hK
    have:g'=g:=by
      rw [List.length_map,List.length_range] at hl
      refine List.ext_getElem? fun i=>?_
      cases h:g'[i]? with
      | some r=>rw [hp i r h]
      | none =>
        rw [List.getElem?_eq_none_iff] at h
        rw [List.getElem?_eq_none (by exact Ait hK hl h)]
    subst this
    rw [Nat.zero_add,Nat.one_mul] at G' hK ⊢
    exact q K e G' hK
end
structure OkG (g:List (List Val)) (r c:Nat):Prop where
  len:g.length=r
  row:∀ (i:Nat) (w:List Val),g[i]?=some w -> w.length=c /\ ∀ v∈w,HV v
section
variable {T:Tab} {Φ:Funs} {Γ:Env'} {H:Hp} {Q:Val -> Hp -> Prop} {E:Nat -> Hp -> Prop} {d:Nat} {QS:Env' -> Hp -> Prop} {R:Val -> Hp -> Prop} {ES:Nat -> Env' -> Hp -> Prop}
theorem U2 {α:Type} {l:List α} {x:α} {j:Nat} {w:α} (h:(l++[x])[j]?=some w):l[j]?=some w \/ (j=l.length /\ w=x):=by
  by_cases c:j < l.length
  · rw [List.getElem?_append_left c] at h;exact .inl h
  · rw [List.getElem?_append_right (by exact o32 c)] at h
    have e:j - l.length=0:=by
      have:=(List.getElem?_eq_some_iff.mp h).1
      simp at this;omega
    rw [e] at h
    cases h
    exact .inr ⟨by exact o34 e c,rfl⟩
end
section
variable {T:Tab} {Φ:Funs} {Γ:Env'} {H:Hp} {Q:Val -> Hp -> Prop} {E:Nat -> Hp -> Prop} {d:Nat} {QS:Env' -> Hp -> Prop} {R:Val -> Hp -> Prop} {ES:Nat -> Env' -> Hp -> Prop}
noncomputable def B4 (i c:Nat):List Val:=(List.range c).map fun (j:Nat)=>.tup [.int (i:Int),.int (j:Int)]
noncomputable def cells (r c:Nat):List Val:=(List.range r).flatMap fun i=>B4 i c
theorem Ir (r c:Nat):cells (r+1) c=cells r c++B4 r c:=by
  unfold cells;rw [List.range_succ];simp
theorem Hy (i c:Nat):B4 i (c+1)=B4 i c++[.tup [.int (i:Int),.int (c:Int)]]:=by
  unfold B4;rw [List.range_succ,List.map_append];rfl
theorem Gg (r c:Nat):(cells r c).length=r * c:=by
  induction r with
  | zero=>simp [cells]
  | succ r ih=>rw [Ir,List.length_append,ih,B4,List.length_map,List.length_range,Nat.succ_mul]
theorem O3 (K:Hp) (a b:HObj):(K++[a]).set K.length b=K++[b]:=by
  rw [List.set_append_right _ _ (Nat.le_refl _),Nat.sub_self];rfl
theorem U3 {r c:Nat} (hr:r <= 30) (hc:c <= 30):Wp (Af T_11 (d+1) 3 [.int (r:Int),.int (c:Int)]) H (fun v H'=>v=.loc H.length /\ H'=H++[.list (cells r c)]) NoE:=by
  have hlid:lid=16777216:=rfl
  rw [Ap (g:=Aet) rfl rfl]
  refine Ak (fun v H'=>v=.loc H.length /\ H'=H++[.list []]) ?_ ?_
  · simp only [↓Ga,↓A5,and_self]
  rintro _ H1 ⟨rfl,e⟩
  rw [e];clear e H1
  refine Ce (fun Γ H'=>∃ a b,Γ=[some (.int r),some (.int c),some (.loc H.length),a,b] /\ H'=H++[.list (cells r c)]) ?_ ?_
  · refine Em (n:=r) (fun k Γ K=>∃ a b,Γ=[some (.int r),some (.int c),some (.loc H.length),a,b] /\ K=H++[.list (cells k c)] /\ k <= r) ?_ ?_ ?_ ?_ ?_
    · simp only [↓Az,List.map_cons,List.map_nil,List.replicate_succ,List.replicate_zero,List.cons_append,List.nil_append,List.set_cons_succ,List.set_cons_zero,and_true,↓Ai]
    · exact Ag3 hr
    · exact ⟨_,_,rfl,rfl,Nat.zero_le _⟩
    · intro k Γ K hk zz
      refine ex2 zz fun a b zz=>Av zz fun zr2 zr3 _=>?_;subst zr2;subst zr3
      refine Ce (fun Γ K=>∃ a b,Γ=[some (.int r),some (.int c),some (.loc H.length),a,b] /\ K=H++[.list (cells (k+1) c)] /\ k+1 <= r) ?_ (fun Γ K h=>by skip;exact h)
      refine Em (n:=c) (fun j Γ K=>∃ b,Γ=[some (.int r),some (.int c),some (.loc H.length),some (.int k),b] /\ K=H++[.list (cells k c++B4 k j)] /\ j <= c) ?_ ?_ ?_ ?_ ?_
      · simp only [↓Az,List.set_cons_succ,List.set_cons_zero,and_true,↓As,↓Ai]
      · exact Ag3 hc
      · exact ⟨_,rfl,by simp [B4],Nat.zero_le _⟩
      · intro j Γ K hj zz
        refine ex1 zz fun b zz=>Av zz fun zr1 zr2 _=>?_;subst zr1;subst zr2
        refine Db (fun K'=>K'=H++[.list (cells k c++B4 k (j+1))]) ?_ ?_
        · refine E8 rfl (Aj H _) ?_
          simp only [↓Dd,↓Al,↓Az,List.set_cons_succ,List.set_cons_zero,↓A5,↓As,↓Ai]
          refine ⟨_,Aj H _,?_,?_⟩
          · rw [List.length_append,Gg,B4,List.length_map,List.length_range]
            have:=Nat.mul_le_mul (show k <= 30 by exact Aiu hk hr) hc
            exact Aiv hj hlid this hc
          · rw [O3,List.append_assoc,<- Hy]
        · rintro K' rfl
          exact ⟨_,rfl,rfl,by exact Ag4 hj⟩
      · intro Γ K zz
        refine ex1 zz fun b zz=>Av zz fun zr1 e _=>?_;subst zr1
        rw [Int.toNat_natCast,<- Ir] at e
        exact ⟨_,_,rfl,e,by exact Ag4 hk⟩
    · intro Γ K zz
      refine ex2 zz fun a b zz=>Av zz fun e e' _=>?_
      rw [Int.toNat_natCast] at e'
      exact ⟨a,b,e,e'⟩
  intro Γ K zz
  refine ex2 zz fun a b zz=>Ad zz fun zr2 zr3=>?_;subst zr2;subst zr3
  simp only [↓Ag,↓Bw,↓A9,↓Az,↓As,↓Ai,and_self]
end
section
variable {T:Tab} {Φ:Funs} {Γ:Env'} {H:Hp} {Q:Val -> Hp -> Prop} {E:Nat -> Hp -> Prop} {d:Nat} {QS:Env' -> Hp -> Prop} {R:Val -> Hp -> Prop} {ES:Nat -> Env' -> Hp -> Prop}
theorem Dc {i c n:Nat} {fs:List (Nat × Val)} {v:Val} (h:H[i]?=some (.inst c fs)) (hf:fs.lookup n=some v):Wp (I7 (.loc i) n) H Q E=Q v H:=by
  have:I7 (.loc i) n H=.ok v H:=by
    unfold I7;rw [Dh];simp only [h,hf]
  unfold Wp;rw [this]
theorem Fo {i c n:Nat} {fs:List (Nat × Val)} {v:Val} {Q:Unit -> Hp -> Prop} (h:H[i]?=some (.inst c fs)):Wp (Bx (.loc i) n v) H Q E=Q () (H.set i (.inst c (Rx fs n v))):=by
  have:Bx (.loc i) n v H=.ok () (H.set i (.inst c (Rx fs n v))):=by
    unfold Bx;simp only [h]
  unfold Wp;rw [this]
theorem Kh {l:Nat} {xs:List Val} {k:Int} {v:Val} {Q:Unit -> Hp -> Prop} (h:H[l]?=some (.list xs)) (h0:0 <= k) (h1:k < xs.length):Wp (Ax (.loc l) (.int k) v) H Q E=Q () (H.set l (.list (xs.set k.toNat v))):=by
  have:Ax (.loc l) (.int k) v H=.ok () (H.set l (.list (xs.set k.toNat v))):=by
    unfold Ax;simp only [h];exact if_pos ⟨h0,h1⟩
  unfold Wp;rw [this]
theorem De {l:Nat} {xs:List Val} (h:H[l]?=some (.list xs)) {k:Nat} {v:Val} (hk:xs[k]?=some v):Wp (C5 (.loc l) (.int (k:Int))) H Q E=Q v H:=by
  have lt:=(List.getElem?_eq_some_iff.mp hk).1
  have:C5 (.loc l) (.int (k:Int)) H=.ok v H:=by
    unfold C5;rw [Dh]
    simp only [h,Uj k xs.length lt,Option.bind_some,hk]
  unfold Wp;rw [this]
theorem Fp {i c m k:Nat} {fs:List (Nat × Val)} {Q:Nat -> Hp -> Prop} (h:H[i]?=some (.inst c fs)) (hk:T.meth c m=some k):Wp (C3 T (.loc i) m) H Q E=Q k H:=by
  have:C3 T (.loc i) m H=.ok k H:=by
    unfold C3;rw [Dh];simp only [h,hk]
  unfold Wp;rw [this]
theorem Gh {i l:Nat} {it:ME} {body:MSs} {xs:List Val} (I:Nat -> Env' -> Hp -> Prop) (hit:wpE T Φ it Γ H (fun v H'=>v=.loc l /\ H'=H) NoE) (hl:H[l]?=some (.list xs)) (h0:I 0 Γ H) (hx:∀ k Γ K,I k Γ K -> K[l]?=some (.list xs))
    (hs:∀ k x Γ K,xs[k]?=some x -> I k Γ K -> wpSs T Φ body (Γ.set i (some x)) K (I (k+1)) R ES) (hd:∀ Γ K,I xs.length Γ K -> QS Γ K):wpS T Φ (.each i it body) Γ H QS R ES:=by
  refine C1 (Ba hit ?_)
  rintro v H' ⟨rfl,e⟩
  rw [e,B0 (Bc hl)]
  exact B6 I h0 hd (fun k Γ K _ h=>Bk (hx k Γ K h)) fun k x Γ K hx h=>⟨_,rfl,hs k x Γ K hx h⟩
theorem Nr {l b s r c:Nat} {g:List (List Val)} {k:Nat} {x:Val} (og:OkG g r c) (G:GAt H l b s g) (hx:((List.range g.length).map fun i=>Val.loc (b+s * i))[k]?=some x):∃ w,x=.loc (b+s * k) /\ g[k]?=some w /\ H[b+s * k]?=some (.list w) /\ w.length=c /\ ∀ v∈w,HV v:=by
  have lt:k < g.length:=by have:=(List.getElem?_eq_some_iff.mp hx).1;simpa using this
  rw [G.item lt] at hx
  cases hx
  have hg:g[k]?=some g[k]:=List.getElem?_eq_getElem lt
  exact ⟨g[k],rfl,hg,G.row k _ hg,og.row k _ hg⟩
theorem Zz {l n:Nat} {w:List Val} {k:Nat} {Γ:Env'} (g:Γ[k]?=some (some (.loc l))) (h:H[l]?=some (.list w)) (e:w.length=n) (h1:1 <= n) (h2:n <= 30):wpE T_11 (Af T_11 (d+1)) (.or (.not (.isinst (.var k) .list)) (.not (.call 0 (.cons (.bf .len (.cons (.var k) .nil)) (.cons (.int 1) (.cons (.glob 0) .nil)))))) Γ H (fun v K=>v=.bool false /\ H=K) NoE:=by
  rw [Du,Ca,By,wvr g,Ui _ _ h,Ac]
  rw [Ac]
  show wpE _ _ _ _ _ _ _
  rw [Ca,Ay,Al,E7,wcv g,A5,A2 h,Al,A3,Al,wp_glob,Ab8,Bo,A5,e,Hw (by exact Aiw h1 h2) (by exact Aix h1 h2)]
  exact ⟨rfl,rfl⟩
theorem Aca {l b s r c:Nat} {g:List (List Val)} {x1:Option Val} (hS:OkS r c) (og:OkG g r c) (G:GAt H l b s g) (q:∀ a,QS [some (.loc l),a] H):wpS T_11 (Af T_11 (d+1)) (.each 1 (.var 0) (.cons (.ite (.or (.not (.isinst (.var 1) .list)) (.not (.call 0 (.cons (.bf .len (.cons (.var 1) .nil)) (.cons (.int 1) (.cons (.glob 0) .nil)))))) (.cons (.raise 1 "a row is a list of heights") .nil) .nil) .nil)) [some (.loc l),x1] H QS R NoX:=by
  unfold OkS at hS
  obtain ⟨I,hI⟩:=Dw (fun (k:Nat) (Γ:Env') (K:Hp)=>H=K /\ ∃ a,Γ=[some (.loc l),a])
  refine Gh I ⟨rfl,rfl⟩ G.top ((hI _ _ _).mpr ⟨rfl,_,rfl⟩) (fun k Γ K h=>by rw [<- ((hI _ _ _).mp h).1];exact G.top) ?_ ?_
  · intro k x Γ K hx h
    refine Ad ((hI _ _ _).mp h) fun zr0 zz=>ex1 zz fun a zr2=>?_;subst zr0;subst zr2
    refine ex1 (Nr og G hx) fun w zz=>Fc zz fun zr1 hg hr lw _=>?_;subst zr1
    exact E9 _ (Zz rfl hr lw (by exact Aiy hS lw) (by exact Aiz hS lw)) fun K h=>(hI _ _ _).mpr ⟨h,_,rfl⟩
  · intro Γ K h
    refine Ad ((hI _ _ _).mp h) fun zr0 zz=>ex1 zz fun a zr2=>?_;subst zr0;subst zr2
    exact q a
theorem Ae1 {l b s r c:Nat} {g:List (List Val)} {x1:Option Val} (hS:OkS r c) (og:OkG g r c) (G:GAt H l b s g) (q:∀ a,QS [some (.loc l),a] H):wpS T_11 (Af T_11 (d+1)) (.each 1 (.var 0) (.cons (.ite (.cmp .ne (.bf .len (.cons (.var 1) .nil)) (.bf .len (.cons (.sub (.var 0) (.int 0)) .nil))) (.cons (.raise 1 "all rows are as long") .nil) .nil) .nil)) [some (.loc l),x1] H QS R NoX:=by
  unfold OkS at hS
  obtain ⟨x0,hx0⟩:∃ x,((List.range g.length).map fun i=>Val.loc (b+s * i))[0]?=some x:=⟨_,List.getElem?_eq_getElem (by rw [List.length_map,List.length_range,og.len];exact Adh hS)⟩
  refine ex1 (Nr og G hx0) fun w0 zz=>Fc zz fun zr1 _ hr0 lw0 _=>?_;subst zr1
  obtain ⟨I,hI⟩:=Dw (fun (k:Nat) (Γ:Env') (K:Hp)=>H=K /\ ∃ a,Γ=[some (.loc l),a])
  refine Gh I ⟨rfl,rfl⟩ G.top ((hI _ _ _).mpr ⟨rfl,_,rfl⟩) (fun k Γ K h=>by rw [<- ((hI _ _ _).mp h).1];exact G.top) ?_ ?_
  · clear q
    intro k x Γ K hx h
    refine Ad ((hI _ _ _).mp h) fun zr0 zz=>ex1 zz fun a zr2=>?_;subst zr0;subst zr2
    refine ex1 (Nr og G hx) fun w zz=>Fc zz fun hr1 hg hr lw _=>?_;refine Eq.symm hr1▸?_
    refine E9 (fun K=>H=K) ?_ fun K h=>(hI _ _ _).mpr ⟨h,_,rfl⟩
    show Wp (bfV .len [.loc (b+s * k)]) H _ _
    rw [A2 hr]
    show Wp (C5 (.loc l) (.int ((0:Nat):Int))) H _ _
    rw [De G.top hx0]
    show Wp (bfV .len [.loc (b+s * 0)]) H _ _
    rw [A2 hr0,lw,lw0,Mg,decide_eq_true rfl]
    exact ⟨rfl,rfl⟩
  · intro Γ K h
    refine Ad ((hI _ _ _).mp h) fun zr0 zz=>ex1 zz fun a zr2=>?_;subst zr0;subst zr2
    exact q a
theorem Xu {l b s r c:Nat} {g:List (List Val)} (hS:OkS r c) (og:OkG g r c) (G:GAt H l b s g):Wp (Af T_11 (d+2) 5 [.loc l]) H (fun v H'=>v=.none /\ H'=H) NoE:=by
  have hS':=hS
  unfold OkS at hS'
  rw [Ap (g:=Abz) rfl rfl,Abz]
  refine E9 _ (Zz rfl G.top (show _=r by rw [List.length_map,List.length_range,og.len]) hS'.1 hS'.2.1) ?_
  rintro _ rfl
  rw [Ag]
  refine Aca hS og G fun a=>?_
  rw [Ag]
  exact Ae1 hS og G fun a=>⟨rfl,rfl⟩
structure LandAt (H:Hp) (o r c lg b s ls:Nat) (g:List (List Val)) (es:List (Key × Val)):Prop where
  inst:∃ fs,H[o]?=some (.inst 7 fs) /\ fs.lookup 0=some (.int (r:Int)) /\ fs.lookup 1=some (.int (c:Int)) /\ fs.lookup 2=some (.loc lg) /\ fs.lookup 3=some (.loc ls)
  grid:GAt H lg b s g
  sinks:H[ls]?=some (.dict es)
theorem LandAt.ext {H':Hp} {o r c lg b s ls:Nat} {g:List (List Val)} {es:List (Key × Val)} (x:LandAt H o r c lg b s ls g es) (e:Ext H H'):LandAt H' o r c lg b s ls g es:=by
  refine ex1 x.inst fun fs zz=>Ad zz fun h1 h2=>?_
  exact ⟨⟨fs,e.get h1,h2⟩,x.grid.ext e,e.get x.sinks⟩
structure But (l:Nat) (H H':Hp):Prop where
  keep:∀ m ob,m≠l -> H[m]?=some ob -> H'[m]?=some ob
  len:H.length <= H'.length
theorem Xv {o l b s r c:Nat} {g:List (List Val)} (og:OkG g r c) (G:GAt H l b s g) (q:∀ a b,QS [some (.loc o),some (.loc l),a,b] H) :
    wpS T_11 (Af T_11 (d+2)) (.each 2 (.var 1) (.cons (.each 3 (.var 2) (.cons (.ite (.not (.call 4 (.cons (.var 3) .nil))) (.cons (.raise 2 "a height or None is wanted") .nil) .nil) .nil)) .nil)) [some (.loc o),some (.loc l),none,none] H QS R NoX:=by
  obtain ⟨I,hI⟩:=Dw (fun (k:Nat) (Γ:Env') (K:Hp)=>H=K /\ ∃ a b,Γ=[some (.loc o),some (.loc l),a,b])
  refine Gh I ⟨rfl,rfl⟩ G.top ((hI _ _ _).mpr ⟨rfl,_,_,rfl⟩) (fun k Γ K h=>by rw [<- ((hI _ _ _).mp h).1];exact G.top) ?_ ?_
  · clear q
    intro k x Γ K hx h
    refine Ad ((hI _ _ _).mp h) fun zr0 zz=>ex2 zz fun a b' zr3=>?_;subst zr0;subst zr3
    refine ex1 (Nr og G hx) fun w zz=>Fc zz fun zr1 hg hr lw hw=>?_;subst zr1
    refine Gh I ⟨rfl,rfl⟩ hr ((hI _ _ _).mpr ⟨rfl,_,_,rfl⟩) (fun k Γ K h=>by rw [<- ((hI _ _ _).mp h).1];exact hr) ?_ (fun Γ K h=>(hI _ _ _).mpr ((hI _ _ _).mp h))
    intro j v Γ K2 hv h
    refine Ad ((hI _ _ _).mp h) fun zr0 zz=>ex2 zz fun a b' zr3=>?_;subst zr0;subst zr3
    refine E9 (fun K=>H=K) ?_ (fun K h=>(hI _ _ _).mpr ⟨h,_,_,rfl⟩)
    rw [Ca,Ay,wcv (v:=v) rfl,A5,Lj (hw v (List.mem_of_getElem? hv))]
    exact ⟨rfl,rfl⟩
  · intro Γ K h
    refine Ad ((hI _ _ _).mp h) fun zr0 zz=>ex2 zz fun a b zr3=>?_;subst zr0;subst zr3
    exact q a b
theorem Xw {o l b s r c:Nat} {g:List (List Val)} (hS:OkS r c) (og:OkG g r c) (G:GAt H l b s g) (ho:H[o]?=some (.inst 7 [])) :
    Wp (Af T_11 (d+3) 23 [.loc o,.loc l]) H (fun v H'=>v=.none /\ But o H H' /\ ∃ lg b' ls,LandAt H' o r c lg b' 1 ls g [] /\ H.length <= b' /\ lg=b'+r /\ H.length <= ls) NoE:=by
  have hS':=hS
  unfold OkS at hS'
  have len:((List.range g.length).map fun i=>Val.loc (b+s * i)).length=r:=by rw [List.length_map,List.length_range,og.len]
  have ne:∀ k w,g[k]?=some w -> o≠b+s * k:=fun k w hg q=>by have:=G.row k w hg;rw [<- q,ho] at this;cases this
  have nl:o≠l:=fun q=>by have:=G.top;rw [<- q,ho] at this;cases this
  have G1:∀ ob,GAt (H.set o ob) l b s g:=fun ob=>G.other ob nl fun i hi=>ne i g[i] (List.getElem?_eq_getElem hi)
  rw [Ap (g:=Zm) rfl rfl]
  refine Db (fun K=>H=K) ?_ ?_
  · exact (Xu hS og G).then fun v H' h=>h.2.symm
  rintro _ hr0;refine hr0▸?_
  refine Xv og G fun a b'=>?_
  obtain ⟨x0,hx0⟩:∃ x,((List.range g.length).map fun i=>Val.loc (b+s * i))[0]?=some x:=⟨_,List.getElem?_eq_getElem (by skip;exact Ai0 hS' len)⟩
  refine ex1 (Nr og G hx0) fun w0 zz=>Fc zz fun zr1 hg0 hr0 lw0 _=>?_;subst zr1
  show Wp (bfV .len [.loc l]) H _ _
  rw [A2 G.top,len]
  show Wp (Bx (.loc o) 0 (.int (r:Int))) H _ _
  rw [Fo ho]
  show Wp (C5 (.loc l) (.int ((0:Nat):Int))) _ _ _
  rw [De (G1 _).top hx0]
  show Wp (bfV .len [.loc (b+s * 0)]) _ _ _
  rw [A2 ((G1 _).row 0 w0 hg0),lw0]
  show Wp (Bx (.loc o) 1 (.int (c:Int))) _ _ _
  rw [Fo (Bb _ ho),List.set_set]
  refine O2 (l:=l) (b:=b) (s:=s) (g:=g) rfl (G1 _) (by rw [og.len];show r < 16777216;exact Ag5 hS' len) ⟨rfl,rfl⟩ ?_
  intro K2 e2 G2 hK2
  rw [List.length_set] at G2 hK2 ⊢
  have o2:=e2.get (Bb (HObj.inst 7 [(0,Val.int (r:Int)),(1,Val.int (c:Int))]) ho)
  have lo:o < H.length:=Bq ho
  have e3:∀ (X:Hp) (ob:HObj),Ext X (X++[ob]):=fun X ob=>⟨_,rfl⟩
  show Wp (Bx (.loc o) 2 (.loc (H.length+g.length))) K2 _ _
  rw [Fo o2]
  show Wp (Bx (.loc o) 3 _) (_++[.dict []]) _ _
  rw [Fo ((e3 _ _).get (Bb _ o2))]
  have G3:∀ (X:Hp) (ob:HObj),GAt X (H.length+g.length) H.length 1 g -> GAt (X.set o ob) (H.length+g.length) H.length 1 g:=fun X ob x=>x.other ob (by exact Ai1 lo) fun i _=>by exact Ai2 lo
  refine ⟨rfl,⟨fun m ob hm h=>?_,?_⟩,H.length+g.length,H.length,K2.length,⟨⟨_,Bb _ ((e3 _ _).get (Bb _ o2)),rfl,rfl,rfl,?_⟩,G3 _ _ ((G3 _ _ G2).ext (e3 _ _)),?_⟩,Nat.le_refl _,by rw [og.len],by exact Ai3 hK2⟩
  · exact Ao _ (Ne.symm hm) ((e3 _ _).get (Ao _ (Ne.symm hm) (e2.get (Ao _ (Ne.symm hm) h))))
  · rw [List.length_set,List.length_append,List.length_set];exact Ai4 hK2
  · rw [List.length_set];rfl
  · refine Ao _ (by exact Ai5 lo hK2) ?_
    have:=Aj (K2.set o (HObj.inst 7 (Rx [(0,Val.int (r:Int)),(1,Val.int (c:Int))] 2 (Val.loc (H.length+g.length))))) (.dict [])
    rw [List.length_set] at this
    exact this
end
section
variable {T:Tab} {Φ:Funs} {Γ:Env'} {H:Hp} {Q:Val -> Hp -> Prop} {E:Nat -> Hp -> Prop} {d:Nat} {QS:Env' -> Hp -> Prop} {R:Val -> Hp -> Prop} {ES:Nat -> Env' -> Hp -> Prop}
theorem Z0 {H H':Hp} (h:∀ (m:Nat) (ob:HObj),H[m]?=some ob -> H'[m]?=some ob):Ext H H':=by
  refine ⟨H'.drop H.length,List.ext_getElem? fun i=>?_⟩
  by_cases c:i < H.length
  · rw [List.getElem?_append_left c,List.getElem?_eq_getElem c]
    exact h i _ (List.getElem?_eq_getElem c)
  · rw [List.getElem?_append_right (by exact o32 c),List.getElem?_drop,show H.length+(i - H.length)=i by exact Ai6 c]
theorem Acb {l b s r c:Nat} {g:List (List Val)} (hS:OkS r c) (og:OkG g r c) (G:GAt H l b s g):Wp (Qk T_11 (Af T_11 (d+3)) 7 [.loc l]) H (fun v H'=>v=.loc H.length /\ Ext H H' /\ ∃ lg b' ls,LandAt H' H.length r c lg b' 1 ls g [] /\ H.length < b' /\ lg=b'+r /\ H.length < ls) NoE:=by
  show Wp ((M.alloc (.inst 7 [])).bnd fun o=>(Af T_11 (d+3) 23 [o,.loc l]).bnd fun r=>match r with
    | .none=>.ret o
    | _=>.bad) H _ _
  rw [Aw,Xh,Aw]
  have e0:Ext H (H++[HObj.inst 7 []]):=⟨_,rfl⟩
  refine (Xw hS og (G.ext e0) (Aj H _)).then ?_
  intro v H' zz
  refine Av zz fun zr0 bt zz=>ex3 zz fun lg b' ls zz=>Cg zz fun L h1 h2 h3=>?_;subst zr0
  rw [List.length_append,List.length_singleton] at h1 h3
  refine ⟨rfl,Z0 fun m ob hm=>bt.keep m ob (Nat.ne_of_lt (Bq hm)) (e0.get hm),lg,b',ls,L,h1,h2,h3⟩
theorem O4 {o r c lg b s ls:Nat} {g:List (List Val)} {es:List (Key × Val)} (og:OkG g r c) (hr:r <= 30) (L:LandAt H o r c lg b s ls g es):Wp (Af T_11 (d+1) 28 [.loc o]) H (fun v H'=>v=.loc (H.length+r) /\ Ext H H' /\ GAt H' (H.length+r) H.length 1 g) NoE:=by
  have hlid:lid=16777216:=rfl
  refine ex1 L.inst fun fs zz=>Fc zz fun h0 h1 h2 h3 h4=>?_
  rw [Ap (g:=Ur) rfl rfl,Ur]
  simp only [List.map_cons,List.map_nil,List.replicate_zero,List.cons_append,List.nil_append,↓Ag,↓Bw,↓A9]
  refine O2 (l:=lg) (b:=b) (s:=s) (g:=g) rfl L.grid (by rw [og.len];exact Ai7 hlid hr) ?_ ?_
  · simp only [↓D2,↓Az,↓Ai]
    rw [Dc h0 h3]
    exact ⟨rfl,rfl⟩
  · intro K e G _
    rw [og.len] at G ⊢
    exact ⟨rfl,e,G⟩
noncomputable def inD (es:List (Key × Val)) (x:Val):Bool:=match Ef x with
  | some k=>(D5 es k).isSome
  | none=>false
theorem Jg {r c:Nat} {x:Val} (h:x∈cells r c):∃ i j:Nat,x=.tup [.int (i:Int),.int (j:Int)] /\ i < r /\ j < c:=by
  unfold cells B4 at h
  refine ex1 (List.mem_flatMap.mp h) fun i zz=>Ad zz fun hi h=>?_
  refine ex1 (List.mem_map.mp h) fun j zz=>Ad zz fun hj h=>?_
  exact ⟨i,j,h.symm,List.mem_range.mp hi,List.mem_range.mp hj⟩
theorem U4 {ls:Nat} {es:List (Key × Val)} {i j:Int} (h:H[ls]?=some (.dict es)):Dy .isin (.tup [.int i,.int j]) (.loc ls) H=some (inD es (.tup [.int i,.int j])):=by
  have e:Dy .isin (.tup [.int i,.int j]) (.loc ls) H=inV (.tup [.int i,.int j]) (.loc ls) H:=rfl
  rw [e]
  unfold inV
  simp only [h]
  rfl
theorem Cf {α:Type} {l:List α} {k:Nat} {x:α} (h:l[k]?=some x):l.take (k+1)=l.take k++[x]:=by
  rw [List.take_add_one,h];rfl
theorem Ll {o r c lg b s ls:Nat} {g:List (List Val)} {es:List (Key × Val)} (hr:r <= 30) (hc:c <= 30) (L:LandAt H o r c lg b s ls g es):Wp (Af T_11 (d+2) 27 [.loc o]) H (fun v H'=>∃ m,v=.loc m /\ H.length <= m /\ Ext H H' /\ H'[m]?=some (.list ((cells r c).filter (inD es)))) NoE:=by
  have hlid:lid=16777216:=rfl
  refine ex1 L.inst fun fs zz=>Fc zz fun h0 h1 h2 h3 h4=>?_
  rw [Ap (g:=Uq) rfl rfl,Uq]
  simp only [List.map_cons,List.map_nil,List.replicate_zero,List.cons_append,List.nil_append,↓Ag,↓Bw,↓A9]
  refine Ka ?_
  simp only [↓Ay,↓Al,↓D2,↓Az,↓Ai,↓A5,List.cons_append,List.nil_append]
  rw [Dc h0 h1,Dc h0 h2]
  refine (U3 hr hc).then ?_
  rintro v K ⟨rfl,e⟩
  rw [e];clear e K
  have e0:Ext H (H++[HObj.list (cells r c)]):=⟨_,rfl⟩
  rw [B0 (Bc (Aj H _))]
  refine Hx (fun k out K=>K=H++[.list (cells r c)] /\ out=((cells r c).take k).filter (inD es)) ⟨rfl,rfl⟩ ?_ ?_ ?_
  · rintro k out K ⟨rfl,_⟩;exact Bk (Aj H _)
  · rintro k x out K hx ⟨rfl,rfl⟩
    refine ex2 (Jg (List.mem_of_getElem? hx)) fun i j zz=>Av zz fun zr2 _ _=>?_;subst zr2
    refine wp_step ?_
    simp only [↓A4,↓Az,↓As,↓Ai,↓D2,↓Ac]
    rw [Dc (e0.get h0) h4,B0 (U4 (e0.get L.sinks))]
    simp only [true_and]
    rw [Cf hx,List.filter_append]
    refine A7 ?_ ?_
    · intro q
      rw [List.filter_cons_of_pos q];rfl
    · intro q
      rw [List.filter_cons_of_neg (by rw [q];exact Bool.false_ne_true)];rfl
  · rintro zs K ⟨rfl,rfl⟩
    have tl:(cells r c).take (cells r c).length=cells r c:=List.take_length
    refine ⟨?_,_,rfl,by rw [List.length_append];exact Ag6,e0.new _,?_⟩
    · refine Nat.lt_of_le_of_lt (List.length_filter_le _ _) ?_
      rw [tl,Gg]
      have:=Nat.mul_le_mul hr hc
      exact Ai8 hlid this
    · rw [Aj,tl]
theorem Jh {o r c lg b s ls i j:Nat} {g:List (List Val)} {es:List (Key × Val)} (hi:i < r) (hj:j < c) (L:LandAt H o r c lg b s ls g es):Wp (Af T_11 (d+3) 24 [.loc o,.tup [.int (i:Int),.int (j:Int)]]) H (fun v H'=>v=.none /\ H'=H) NoE:=by
  refine ex1 L.inst fun fs zz=>Fc zz fun h0 h1 h2 h3 h4=>?_
  rw [Ap (g:=Um) rfl rfl,Um]
  refine E9 (fun H'=>H'=H) ?_ ?_
  · simp only [↓Ca,↓Ay,↓Al,↓D2,↓Az,List.map_cons,List.map_nil,List.replicate_zero,List.cons_append,List.nil_append,↓A5,↓As,↓Ai]
    rw [Dc h0 h1,Dc h0 h2,Xr (by exact o48) (by exact o49 hi) (by exact o48) (by exact o49 hj)]
    simp only [↓Ac,Bool.not_true,and_self]
  · rintro H' rfl
    rw [Bv];exact ⟨rfl,rfl⟩
theorem Ji {o i j:Nat} {fs:List (Nat × Val)} {P:Hp -> Prop} (h0:H[o]?=some (.inst 7 fs)) (h:Wp (Af T_11 d 24 [.loc o,.tup [.int (i:Int),.int (j:Int)]]) H (fun v H'=>v=.none /\ H'=H) NoE) (p:P H) {Γ:Env'} (g0:Γ[0]?=some (some (.loc o))) (g1:Γ[1]?=some (some (.tup [.int (i:Int),.int (j:Int)]))) :
    wpE T_11 (Af T_11 d) (.umeth (.var 0) 1 (.cons (.var 1) .nil)) Γ H (fun _ H'=>P H') NoE:=by
  rw [Cb,Az,Eu,g0]
  show Wp (C3 T_11 (.loc o) 1) H _ _
  rw [Fp h0 (show T_11.meth 7 1=some 24 from rfl),Al,Az,Eu,g1]
  show wpEs _ _ _ _ _ _ _
  rw [A5]
  exact h.then fun v H' e=>e.2▸p
theorem Z1 {o r c lg b s ls i j:Nat} {g:List (List Val)} {es:List (Key × Val)} {w:List Val} {x:Val} (hi:i < r) (hj:j < c) (L:LandAt H o r c lg b s ls g es) (hw:g[i]?=some w) (hx:w[j]?=some x) :
    Wp (Af T_11 (d+4) 25 [.loc o,.tup [.int (i:Int),.int (j:Int)]]) H (fun v H'=>v=x /\ H'=H) NoE:=by
  refine ex1 L.inst fun fs zz=>Fc zz fun h0 h1 h2 h3 h4=>?_
  rw [Ap (g:=Un) rfl rfl,Un]
  refine Db (fun H'=>H'=H) (Ji (P:=fun K=>K=H) h0 (Jh hi hj L) rfl rfl rfl) ?_
  rintro H' rfl
  simp only [↓Ag,↓Bw,↓A9,↓A8,↓D2,↓Az,List.map_cons,List.map_nil,List.replicate_zero,List.cons_append,List.nil_append,↓A3,↓As,↓Ai,↓D3,↓Ez]
  rw [Dc h0 h3,De L.grid.top (L.grid.item (List.getElem?_eq_some_iff.mp hw).1),De (L.grid.row i w hw) hx]
  exact ⟨rfl,rfl⟩
theorem Lm {o r c lg b s ls i j:Nat} {g:List (List Val)} {es:List (Key × Val)} {w:List Val} {n:Int} (hi:i < r) (hj:j < c) (L:LandAt H o r c lg b s ls g es) (hw:g[i]?=some w) (hx:w[j]?=some (.int n)) (he:es.length < lid) :
    Wp (Af T_11 (d+4) 26 [.loc o,.tup [.int (i:Int),.int (j:Int)]]) H (fun v H'=>v=.none /\ H'=H.set ls (.dict (Fb es ((i:Int),(j:Int)) (.bool true)))) NoE:=by
  refine ex1 L.inst fun fs zz=>Fc zz fun h0 h1 h2 h3 h4=>?_
  rw [Ap (g:=Uo) rfl rfl,Uo]
  refine Db (fun H'=>H'=H) (Ji (P:=fun K=>K=H) h0 (Jh hi hj L) rfl rfl rfl) ?_
  rintro H' rfl
  refine E9 (fun K=>K=H') ?_ ?_
  · simp only [↓A4,↓A8,↓D2,↓Az,List.map_cons,List.map_nil,List.replicate_zero,List.cons_append,List.nil_append,↓A3,↓El,↓As,↓Ai,↓D3,↓Ez]
    rw [Dc h0 h3,De L.grid.top (L.grid.item (List.getElem?_eq_some_iff.mp hw).1),De (L.grid.row i w hw) hx]
    simp only [↓Cl,and_self]
  rintro K rfl
  simp only [↓Ag,↓Be,↓Ik,↓D2,↓Az,List.map_cons,List.map_nil,List.replicate_zero,List.cons_append,List.nil_append,↓Bv,true_and,↓As,↓Ai]
  rw [Dc h0 h4]
  refine Wp.of_eq (a:=()) (H':=K.set ls (.dict (Fb es ((i:Int),(j:Int)) (.bool true)))) ?_ rfl
  unfold Ax
  simp only [L.sinks]
  exact if_pos he
end
end Mine.Internal.Pure
namespace Mine.Internal.Pure
open PySem Pile
noncomputable def ent (l:Int) (k:Key):Val:=.tup [.int l,.tup [.int k.1,.int k.2]]
theorem Hb {l l':Int} {k k':Key} (h:ent l k=ent l' k'):l=l' /\ k=k':=by
  obtain ⟨a,b⟩:=k
  obtain ⟨c,d⟩:=k'
  unfold ent at h
  injection h with h
  injection h with h1 h2
  injection h1 with h1
  injection h2 with h2 _
  injection h2 with h2
  injection h2 with h2 h3
  injection h3 with h3 _
  injection h2 with h2
  injection h3 with h3
  exact ⟨h1,Prod.ext h2 h3⟩
theorem Nt (l:Int) (k:Key):DC (ent l k):=⟨l,k.1,k.2,rfl⟩
theorem Acc {l l':Int} {k k':Key} (h:klt (ent l k) (ent l' k')=false):l' <= l:=by
  have h:Hv [l,k.1,k.2] [l',k'.1,k'.2]=false:=h
  rw [B8] at h
  by_cases q:l < l'
  · rw [if_pos q] at h;cases h
  · exact Afj q
noncomputable def mx (a b:Int):Int:=if b > a then b else a
theorem Ae2 (a b:Int):a <= mx a b:=by unfold mx;by_cases q:b > a <;> simp [q] <;> exact Ai9 q
theorem Afo (a b:Int):b <= mx a b:=by unfold mx;by_cases q:b > a <;> simp [q] <;> exact Aja q
theorem Agr {a b c:Int} (h1:a <= c) (h2:b <= c):mx a b <= c:=by unfold mx;by_cases q:b > a <;> simp [q] <;> omega
theorem O5 (a:Int) {b c:Int} (h:b <= c):mx a b <= mx a c:=Agr (Ae2 a c) (Int.le_trans h (Afo a c))
noncomputable def O6 (i j:Int):List Key:=[(i - 1,j),(i,j - 1),(i,j+1),(i+1,j)]
noncomputable def Adj (k q:Key):Prop:=q∈O6 k.1 k.2
theorem Adj.symm {k q:Key} (h:Adj k q):Adj q k:=by
  obtain ⟨i,j⟩:=k
  have h:q∈[(i - 1,j),(i,j - 1),(i,j+1),(i+1,j)]:=h
  rcases List.mem_cons.mp h with rfl | h
  · exact .tail _ (.tail _ (.tail _ (List.mem_singleton.mpr (by rw [Int.sub_add_cancel]))))
  rcases List.mem_cons.mp h with rfl | h
  · exact .tail _ (.tail _ (List.mem_cons.mpr (.inl (by rw [Int.sub_add_cancel]))))
  rcases List.mem_cons.mp h with rfl | h
  · exact .tail _ (List.mem_cons.mpr (.inl (by rw [Int.add_sub_cancel])))
  cases List.mem_singleton.mp h
  exact List.mem_cons.mpr (.inl (by rw [Int.add_sub_cancel]))
inductive Rc (h:Key -> Option Int) (D:Key -> Prop):Key -> Int -> Prop
  | drain {k:Key} {a:Int}:D k -> h k=some a -> Rc h D k a
  | step {p q:Key} {f a:Int}:Rc h D p f -> Adj p q -> h q=some a -> Rc h D q (mx a f)
theorem Rc.hi {h:Key -> Option Int} {D:Key -> Prop} {k:Key} {f:Int} (x:Rc h D k f):∃ a,h k=some a /\ a <= f:=by
  cases x with
  | drain d e=>exact ⟨_,e,Int.le_refl _⟩
  | step r n e=>exact ⟨_,e,Ae2 _ _⟩
theorem Rc.mono {h:Key -> Option Int} {D D':Key -> Prop} (i:∀ k,D k -> D' k) {k:Key} {f:Int} (x:Rc h D k f):Rc h D' k f:=by
  induction x with
  | drain d e=>exact .drain (i _ d) e
  | step r n e ih=>exact .step ih n e
structure Fl (h:Key -> Option Int) (D C:Key -> Prop) (O:Key -> Key -> Prop) (F:Key -> Option Int) (xs:List Val) (U:List Key) (m:Int):Prop where
  ents:∀ x∈xs,∃ l k,x=ent l k /\ m <= l /\ ∃ f,F k=some f /\ f <= l
  nd:xs.Nodup
  here:∀ k f,F k=some f -> k∈U -> ent f k∈xs
  done:∀ k f,F k=some f -> ¬ k∈U -> ¬ ent f k∈xs /\ f <= m
  seen:∀ k,C k -> ¬ k∈U -> F k≠none
  drain:∀ k,D k -> F k=h k
  snd:∀ k f,F k=some f -> Rc h D k f
  near:∀ p fp,F p=some fp -> ¬ p∈U -> ∀ q,Adj p q -> ¬ O p q -> ∀ a,h q=some a -> ∃ fq,F q=some fq /\ fq <= mx a fp
noncomputable def upd (F:Key -> Option Int) (q:Key) (v:Int) (k:Key):Option Int:=if k=q then some v else F k
theorem Bs (F:Key -> Option Int) (q:Key) (v:Int):upd F q v q=some v:=if_pos rfl
theorem Co (F:Key -> Option Int) {q k:Key} (v:Int) (h:k≠q):upd F q v k=F k:=if_neg h
section
variable {h:Key -> Option Int} {D C:Key -> Prop} {O O':Key -> Key -> Prop} {F:Key -> Option Int} {xs:List Val} {U:List Key} {m:Int}
theorem Fl.perm {ys:List Val} (x:Fl h D C O F xs U m) (p:ys.Perm xs):Fl h D C O F ys U m :=
  ⟨fun y hy=>x.ents y (p.mem_iff.mp hy),p.nodup_iff.mpr x.nd,fun k f hf hk=>p.mem_iff.mpr (x.here k f hf hk),fun k f hf hk=>⟨fun q=>(x.done k f hf hk).1 (p.mem_iff.mp q),(x.done k f hf hk).2⟩,x.seen,x.drain,x.snd,x.near⟩
theorem Fl.start (hU:∀ k,C k -> k∈U):Fl h (fun _=>False) C O (fun _=>none) [] U 0 :=
  ⟨fun y hy=>(nomatch hy),List.nodup_nil,fun k f hf=>(nomatch hf),fun k f hf=>(nomatch hf),fun k hc hk=>absurd (hU k hc) hk,fun k hk=>False.elim hk,fun k f hf=>(nomatch hf),fun p fp hf=>nomatch hf⟩
theorem It {xs:List Val} {v:Val} (h:xs.Nodup) (n:¬ v∈xs):(xs++[v]).Nodup:=by
  rw [List.nodup_append]
  refine ⟨h,by simp,fun a ha b hb e=>?_⟩
  cases List.mem_singleton.mp hb
  exact n (e▸ha)
theorem Fl.opened {q:Key} {a:Int} (x:Fl h D C O F xs U 0) (all:∀ k,¬ k∈U -> F k=none) (hF:F q=none) (ha:h q=some a) (h0:0 <= a) (hq:q∈U):Fl h (fun k=>D k \/ k=q) C O (upd F q a) (xs++[ent a q]) U 0:=by
  have old:∀ k f,F k=some f -> k≠q:=fun k f hf e=>by rw [e,hF] at hf;cases hf
  have get:∀ k f,upd F q a k=some f -> (k=q /\ f=a) \/ (k≠q /\ F k=some f):=fun k f hf=>by
    by_cases e:k=q
    · rw [e,Bs] at hf;cases hf;exact .inl ⟨e,rfl⟩
    · rw [Co _ _ e] at hf;exact .inr ⟨e,hf⟩
  have no:¬ ent a q∈xs:=fun hx=>by
    refine ex2 (x.ents _ hx) fun l k zz=>Av zz fun e _ zz=>ex1 zz fun f zz=>Ad zz fun hf _=>?_
    exact old k f hf (Hb e).2.symm
  refine ⟨fun y hy=>?_,It x.nd no,fun k f hf hk=>?_,fun k f hf hk=>?_,fun k hc hk=>?_,fun k hk=>?_,fun k f hf=>?_,fun p fp hf hp=>?_⟩
  · rcases List.mem_append.mp hy with hy | hy
    · refine ex2 (x.ents y hy) fun l k zz=>Av zz fun e hl zz=>ex1 zz fun f zz=>Ad zz fun hf hle=>?_
      exact ⟨l,k,e,hl,f,by rw [Co _ _ (old k f hf)];exact hf,hle⟩
    · cases List.mem_singleton.mp hy
      exact ⟨a,q,rfl,h0,a,Bs _ _ _,Int.le_refl _⟩
  · rcases get k f hf with ⟨rfl,rfl⟩ | ⟨_,hf⟩
    · exact List.mem_append.mpr (.inr (List.mem_singleton.mpr rfl))
    · exact List.mem_append.mpr (.inl (x.here k f hf hk))
  · rcases get k f hf with ⟨rfl,rfl⟩ | ⟨_,hf⟩
    · exact absurd hq hk
    · rw [all k hk] at hf;cases hf
  · intro e
    have:=x.seen k hc hk
    rw [all k hk] at this
    exact this rfl
  · by_cases e:k=q
    · rw [e,Bs,ha]
    · rw [Co _ _ e];exact x.drain k (hk.resolve_right e)
  · rcases get k f hf with ⟨rfl,rfl⟩ | ⟨_,hf⟩
    · exact .drain (.inr rfl) ha
    · exact (x.snd k f hf).mono fun _ d=>.inl d
  · rcases get p fp hf with ⟨rfl,rfl⟩ | ⟨_,hf⟩
    · exact absurd hq hp
    · rw [all p hp] at hf;cases hf
theorem Fl.stale {L:Int} {p:Key} {t:List Val} (x:Fl h D C O F (ent L p :: t) U m) (hF:F p≠some L):Fl h D C O F t U m:=by
  refine ⟨fun y hy=>x.ents y (.tail _ hy),(List.nodup_cons.mp x.nd).2,fun k f hf hk=>?_,fun k f hf hk=>⟨fun q=>(x.done k f hf hk).1 (.tail _ q),(x.done k f hf hk).2⟩,x.seen,x.drain,x.snd,x.near⟩
  rcases List.mem_cons.mp (x.here k f hf hk) with e | e
  · obtain ⟨rfl,rfl⟩:=Hb e
    exact absurd hf hF
  · exact e
theorem Fl.pop {L:Int} {p:Key} {t:List Val} (x:Fl h D C (fun _ _=>False) F (ent L p :: t) U m) (least:∀ y∈t,klt y (ent L p)=false) (hF:F p=some L) :
    p∈U /\ Fl h D C (fun p' _=>p'=p) F t (U.filter fun k=>decide (k≠p)) L:=by
  have hmem:∀ k,k∈U.filter (fun k=>decide (k≠p))↔(k∈U /\ k≠p):=fun k=>by rw [List.mem_filter,decide_eq_true_eq]
  have hp:p∈U:=Classical.byContradiction fun q=>(x.done p L hF q).1 (.head _)
  refine Ah fun G kG=>?_
  obtain ⟨n1,n2⟩:=List.nodup_cons.mp x.nd
  refine ex2 (x.ents _ (.head _)) fun l0 k0 zz=>Av zz fun e0 hl0 _=>?_
  obtain ⟨rfl,rfl⟩:=Hb e0
  refine kG ?_
  refine ⟨hp,fun y hy=>?_,n2,fun k f hf hk=>?_,fun k f hf hk=>?_,fun k hc hk=>?_,x.drain,x.snd,fun p' fp hf hk q hq ho a ha=>?_⟩
  · refine Ah fun G kG=>?_
    refine ex2 (x.ents y (.tail _ hy)) fun l k zz=>Av zz fun zr2 hl zz=>ex1 zz fun f zz=>Ad zz fun hf hle=>?_;subst zr2
    refine kG ?_
    exact ⟨l,k,rfl,Acc (least _ hy),f,hf,hle⟩
  · obtain ⟨hk,ne⟩:=(hmem k).mp hk
    rcases List.mem_cons.mp (x.here k f hf hk) with e | e
    · exact absurd (Hb e).2 ne
    · exact e
  · by_cases e:k=p
    · subst e
      rw [hF] at hf;cases hf
      exact ⟨n1,Int.le_refl _⟩
    · have hk':¬ k∈U:=fun q=>hk ((hmem k).mpr ⟨q,e⟩)
      obtain ⟨d1,d2⟩:=x.done k f hf hk'
      exact ⟨fun q=>d1 (.tail _ q),by omega⟩
  · by_cases e:k=p
    · rw [e,hF];exact fun c=>nomatch c
    · exact x.seen k hc fun q=>hk ((hmem k).mpr ⟨q,e⟩)
  · have hk':¬ p'∈U:=fun q=>hk ((hmem p').mpr ⟨q,ho⟩)
    exact x.near p' fp hf hk' q hq (fun q=>q) a ha
theorem Fl.skip {L:Int} {p q:Key} (x:Fl h D C O F xs U m) (hO:∀ p' q',O p' q' -> O' p' q' \/ (p'=p /\ q'=q)) (hF:F p=some L) (hq:∀ a,h q=some a -> ∃ fq,F q=some fq /\ fq <= mx a L):Fl h D C O' F xs U m:=by
  refine ⟨x.ents,x.nd,x.here,x.done,x.seen,x.drain,x.snd,fun p' fp hf hp q' hq' ho a ha=>?_⟩
  by_cases o:O p' q'
  · obtain ⟨rfl,rfl⟩:=(hO p' q' o).resolve_left ho
    rw [hF] at hf;cases hf
    exact hq a ha
  · exact x.near p' fp hf hp q' hq' o a ha
theorem Fl.put {L a:Int} {p q:Key} (x:Fl h D C O F xs U L) (hO:∀ p' q',O p' q' -> O' p' q' \/ (p'=p /\ q'=q)) (hp:¬ p∈U) (hF:F p=some L) (hC:C q) (hA:Adj p q) (ha:h q=some a) (new:∀ f,F q=some f -> mx a L < f) :
    Fl h D C O' (upd F q (mx a L)) (xs++[ent (mx a L) q]) U L:=by
  have hL:=Afo a L
  have hqU:q∈U:=Classical.byContradiction fun n=>by
    cases hf:F q with
    | none=>exact x.seen q hC n hf
    | some f =>
      have:=(x.done q f hf n).2
      have:=new f hf
      omega
  have pq:p≠q:=fun e=>hp (e▸hqU)
  have get:∀ k f,upd F q (mx a L) k=some f -> (k=q /\ f=mx a L) \/ (k≠q /\ F k=some f):=fun k f hf=>by
    by_cases e:k=q
    · rw [e,Bs] at hf;cases hf;exact .inl ⟨e,rfl⟩
    · rw [Co _ _ e] at hf;exact .inr ⟨e,hf⟩
  have no:¬ ent (mx a L) q∈xs:=fun hx=>by
    refine Ah fun G kG=>?_
    refine ex2 (x.ents _ hx) fun l k zz=>Av zz fun e _ zz=>ex1 zz fun f zz=>Ad zz fun hf hle=>?_
    obtain ⟨e1,rfl⟩:=Hb e
    refine kG ?_
    have:=new f hf
    exact Ajb this e1 hle
  refine ⟨fun y hy=>?_,It x.nd no,fun k f hf hk=>?_,fun k f hf hk=>?_,fun k hc hk=>?_,fun k hk=>?_,fun k f hf=>?_,fun p' fp hf hp' q' hq' ho b hb=>?_⟩
  · rcases List.mem_append.mp hy with hy | hy
    · refine Ah fun G kG=>?_
      refine ex2 (x.ents y hy) fun l k zz=>Av zz fun e hl zz=>ex1 zz fun f zz=>Ad zz fun hf hle=>?_
      refine kG ?_
      by_cases c:k=q
      · subst c
        exact ⟨l,k,e,hl,_,Bs _ _ _,by have:=new f hf;exact Ag7 this hle⟩
      · exact ⟨l,k,e,hl,f,by rw [Co _ _ c];exact hf,hle⟩
    · cases List.mem_singleton.mp hy
      exact ⟨_,q,rfl,hL,_,Bs _ _ _,Int.le_refl _⟩
  · rcases get k f hf with ⟨rfl,rfl⟩ | ⟨_,hf⟩
    · exact List.mem_append.mpr (.inr (List.mem_singleton.mpr rfl))
    · exact List.mem_append.mpr (.inl (x.here k f hf hk))
  · rcases get k f hf with ⟨rfl,rfl⟩ | ⟨ne,hf⟩
    · exact absurd hqU hk
    · obtain ⟨d1,d2⟩:=x.done k f hf hk
      refine ⟨fun c=>?_,d2⟩
      rcases List.mem_append.mp c with c | c
      · exact d1 c
      · exact ne (Hb (List.mem_singleton.mp c)).2
  · by_cases c:k=q
    · rw [c,Bs];exact fun c=>nomatch c
    · rw [Co _ _ c];exact x.seen k hc hk
  · by_cases c:k=q
    · subst c
      have:=x.drain k hk
      rw [ha] at this
      have:=new a this
      have:=Ae2 a L
      omega
    · rw [Co _ _ c];exact x.drain k hk
  · rcases get k f hf with ⟨rfl,rfl⟩ | ⟨_,hf⟩
    · exact .step (x.snd p L hF) hA ha
    · exact x.snd k f hf
  · rcases get p' fp hf with ⟨rfl,rfl⟩ | ⟨_,hf1⟩
    · exact absurd hqU hp'
    · by_cases o:O p' q'
      · obtain ⟨rfl,rfl⟩:=(hO p' q' o).resolve_left ho
        rw [hF] at hf1;cases hf1
        rw [ha] at hb;cases hb
        exact ⟨_,Bs _ _ _,Int.le_refl _⟩
      · refine ex1 (x.near p' fp hf1 hp' q' hq' o b hb) fun fq zz=>Ad zz fun h1 h2=>?_
        by_cases c:q'=q
        · subst c
          exact ⟨_,Bs _ _ _,by have:=new fq h1;exact Ag7 this h2⟩
        · exact ⟨fq,by rw [Co _ _ c];exact h1,h2⟩
structure Lv (h:Key -> Option Int) (D:Key -> Prop) (F:Key -> Option Int):Prop where
  snd:∀ k f,F k=some f -> Rc h D k f
  low:∀ k f,Rc h D k f -> ∃ f',F k=some f' /\ f' <= f
theorem Fl.fin (x:Fl h D C (fun _ _=>False) F [] U m):Lv h D F:=by
  refine ⟨x.snd,fun k f r=>?_⟩
  induction r with
  | drain d e=>exact ⟨_,(x.drain _ d).trans e,Int.le_refl _⟩
  | @step p q f a r n e ih =>
    refine ex1 ih fun f' zz=>Ad zz fun h1 h2=>?_
    have hp:¬ p∈U:=fun c=>by cases x.here p f' h1 c
    refine ex1 (x.near p f' h1 hp q n (fun c=>c) a e) fun fq zz=>Ad zz fun h3 h4=>?_
    exact ⟨fq,h3,Int.le_trans h4 (O5 a h2)⟩
theorem Lv.uniq {F':Key -> Option Int} (x:Lv h D F) (y:Lv h D F') (k:Key):F k=F' k:=by
  cases e:F k with
  | none =>
    cases e':F' k with
    | none=>rfl
    | some f =>
      refine ex1 (x.low k f (y.snd k f e')) fun g zz=>Ad zz fun h1 _=>?_
      rw [e] at h1;cases h1
  | some f =>
    refine ex1 (y.low k f (x.snd k f e)) fun g zz=>Ad zz fun h1 h2=>?_
    refine ex1 (x.low k g (y.snd k g h1)) fun g' zz=>Ad zz fun h3 h4=>?_
    rw [e] at h3;cases h3
    rw [h1,show f=g by exact Ajc h2 h4]
theorem Lv.own (x:Lv h D F) {k:Key} (d:D k) {a:Int} (e:h k=some a):F k=some a:=by
  refine ex1 (x.low k a (.drain d e)) fun f zz=>Ad zz fun h1 h2=>?_
  refine ex1 ((x.snd k f h1).hi) fun b zz=>Ad zz fun h3 h4=>?_
  rw [e] at h3;cases h3
  rw [h1,show f=a by exact Ajd h2 h4]
structure Lst (F:Key -> Option Int) (ks:List Key) (o:Option Int):Prop where
  non:o=none -> ∀ k∈ks,F k=none
  one:∀ l,o=some l -> (∃ k∈ks,F k=some l) /\ ∀ k∈ks,∀ f,F k=some f -> l <= f
end
end Mine.Internal.Pure
namespace Mine.Internal.Pure
open PySem
noncomputable def O7:List (Nat × Nat):=[(1,30),(30,1),(5,5),(2,12),(2,30),(30,2),(6,7),(7,9)]
section
variable {T:Tab} {Φ:Funs} {Γ:Env'} {H:Hp} {Q:Val -> Hp -> Prop} {E:Nat -> Hp -> Prop} {d:Nat} {QS:Env' -> Hp -> Prop} {R:Val -> Hp -> Prop} {ES:Nat -> Env' -> Hp -> Prop}
theorem Xx (c:Int):∃ r k:Nat,(OkS r k /\ r * k <= 63) /\ ∀ (H:Hp),Wp (Af T_11 (d+1) 10 [.int c]) H (fun v H'=>v=.tup [.int r,.int k] /\ Ext H H') NoE:=by
  by_cases q:Int.fmod (Int.fdiv c 20) 8=1
  · refine ex1 (Cm (Int.fdiv c 160) 8 (by decide)) fun j zz=>Ad zz fun hj lj=>?_
    have lj':j < O7.length:=lj
    refine ⟨(O7[j]).1,(O7[j]).2,?_,fun H=>?_⟩
    · have:∀ p∈O7,OkS p.1 p.2 /\ p.1 * p.2 <= 63:=by unfold OkS O7;decide
      exact this _ (List.getElem_mem lj')
    · rw [Ap (g:=Nm) rfl rfl,Nm]
      simp only [List.map_cons,List.map_nil,List.replicate_zero,List.cons_append,List.nil_append,↓Ag,↓Bd,↓A4,↓B9,↓Az,↓Ai,↓A3,↓G5,↓Kc,↓Ow,↓Ac,↓Bw,↓A9,↓A8,↓Ga,↓Al,↓Dd,↓A5,↓Bv,↓Gb]
      refine ⟨by decide,by decide,?_⟩
      rw [D1 q]
      refine ⟨by decide,by decide,?_⟩
      rw [show Int.fmod (Int.fdiv c 160) 8=(j:Int) from hj]
      refine Oz (Aj H _) (by exact Aje lj) (v:=.tup [.int ((O7[j]).1:Nat),.int ((O7[j]).2:Nat)]) ?_ ⟨rfl,⟨_,rfl⟩⟩
      match j,lj with
      | 0,_=>rfl
      | 1,_=>rfl
      | 2,_=>rfl
      | 3,_=>rfl
      | 4,_=>rfl
      | 5,_=>rfl
      | 6,_=>rfl
      | 7,_=>rfl
  · refine ex1 (Cm c 4 (by decide)) fun i zz=>Ad zz fun hi li=>?_
    refine ex1 (Cm (Int.fdiv c 4) 5 (by decide)) fun j zz=>Ad zz fun hj lj=>?_
    refine ⟨1+i,1+j,⟨by unfold OkS;exact Ajf li lj,by have:=Nat.mul_le_mul (show 1+i <= 4 by exact Ajg li) (show 1+j <= 5 by exact Ajh lj);exact Aji this⟩,fun H=>?_⟩
    rw [Ap (g:=Nm) rfl rfl,Nm]
    simp only [List.map_cons,List.map_nil,List.replicate_zero,List.cons_append,List.nil_append,↓Ag,↓Bd,↓A4,↓B9,↓Az,↓Ai,↓A3,↓G5,↓Kc,↓Ow,↓Ac,↓Bw,↓A9,↓A8,↓Ga,↓Al,↓Dd,↓A5,↓Bv,↓Gb]
    refine ⟨by decide,by decide,?_⟩
    rw [Cq q]
    refine ⟨by decide,by decide,by decide,?_,Ext.refl H⟩
    rw [show Int.fmod c 4=(i:Int) from hi,show Int.fmod (Int.fdiv c 4) 5=(j:Int) from hj]
    rfl
theorem Acd {ns:List Int} {r c k:Nat} {x2 x3:Val} {a5:Option Val} (hS:OkS r c) (hk:k < r):wpE T_11 (Af T_11 (d+2)) (.comp (.call 12 (.cons (.var 0) (.cons (.bin .add (.bin .mul (.var 4) (.sub (.var 1) (.int 1))) (.var 6)) .nil))) (.bf .range (.cons (.sub (.var 1) (.int 1)) .nil)) .none) [some (.script ns),some (.tup [.int (r:Int),.int (c:Int)]),some x2,some x3,some (.int (k:Int)),a5] H
    (fun v K=>∃ nums:List Val,v=.loc H.length /\ K=H++[.list nums] /\ nums.length=c /\ ∀ x∈nums,∃ n:Int,x=.int n) NoE:=by
  have hlid:lid=16777216:=rfl
  unfold OkS at hS
  refine Nq (xs:=V0 c) (src:=none) (fun _ v=>∃ n:Int,v=.int n) (Ae0 (by exact Ajj hS) ⟨rfl,rfl⟩) rfl (by rw [P7];exact Ajk hS hlid) ?_ ?_
  · intro j x hx
    obtain ⟨hr0,lj⟩:=Xs hx;refine Eq.symm hr0▸?_
    obtain ⟨n,hn⟩:=Rm (d:=d) ns (k * c+j) (by have:=Nat.mul_le_mul (show k <= 29 by exact Ag8 hS hk) (show c <= 30 by exact Afr hS);exact Ajl hS lj this)
    show wpE _ _ _ [some (.script ns),some (.tup [.int (r:Int),.int (c:Int)]),some x2,some x3,some (.int (k:Int)),a5,some (.int (j:Int))] _ _ _
    simp only [↓Ay,↓Al,↓A5,↓Az,↓B9,↓A8,↓A3,↓Dt,↓Ai,↓As,↓D3,↓Kb,↓Gb]
    refine ⟨by rw [show Eo (k:Int)=true by unfold Eo;simp;exact Ag9 hS hk];rfl,?_⟩
    rw [show (k:Int) * (c:Int)+(j:Int)=((k * c+j:Nat):Int) by rw [Int.natCast_add,Int.natCast_mul]]
    exact (hn H).then fun v H' h=>⟨⟨n,h.1⟩,h.2⟩
  · intro ys hl hp
    refine ⟨ys,rfl,rfl,hl.trans (P7 c),fun x hx=>?_⟩
    obtain ⟨j,hj⟩:=List.mem_iff_getElem?.mp hx
    exact hp j x hj
theorem Ae3 {nums:List Val} {c l kind:Nat} {xs:List Val} {x0 x1 x4:Val} (hl:H[l]?=some (.list xs)) (xl:xs.length < 1000) (cl:c <= 1000) (ln:nums.length=c) (hn:∀ x∈nums,∃ n:Int,x=.int n)
    (q:∀ w:List Val,w.length=c -> (∀ v∈w,HV v) -> QS [some x0,some x1,some (.int (kind:Int)),some (.loc l),some x4,some (.loc H.length)] (((H++[HObj.list nums])++[HObj.list w]).set l (HObj.list (xs++[Val.loc (H.length+1)])))) :
    wpSs T_11 (Af T_11 (d+2)) (.cons (.expr (.bm (.var 3) .append (.cons (.comp (.call 11 (.cons (.var 6) (.cons (.var 2) .nil))) (.var 5) .none) .nil))) .nil) [some x0,some x1,some (.int (kind:Int)),some (.loc l),some x4,some (.loc H.length)] (H++[HObj.list nums]) QS R NoX:=by
  have hlid:lid=16777216:=rfl
  have e1:Ext H (H++[HObj.list nums]):=⟨_,rfl⟩
  refine Db (fun K=>QS [some x0,some x1,some (.int (kind:Int)),some (.loc l),some x4,some (.loc H.length)] K) ?_ (fun K h=>h)
  refine E8 rfl (e1.get hl) ?_
  refine Nq (xs:=nums) (src:=some H.length) (fun _ v=>HV v) ⟨rfl,Bc (Aj H _)⟩ (Bk (Aj H _)) (by exact Ajm hlid ln cl) ?_ ?_
  · intro j x hx
    obtain ⟨n,rfl⟩:=hn x (List.mem_of_getElem? hx)
    refine ex1 (Aez (d:=d+1) n kind (by exact o48)) fun v zz=>Ad zz fun hv hw=>?_
    exact (hw _).then fun w H' h=>⟨h.1▸hv,h.2⟩
  · intro ys hl' hp
    refine ⟨_,Ext.get ⟨_,rfl⟩ (e1.get hl),by exact o73 xl hlid,?_⟩
    have:(H++[HObj.list nums]).length=H.length+1:=by rw [List.length_append];rfl
    rw [this]
    refine q ys (hl'.trans ln) fun x hx=>?_
    obtain ⟨j,hj⟩:=List.mem_iff_getElem?.mp hx
    exact hp j x hj
theorem Ace {K:Hp} {l c k:Nat} {g:List (List Val)} {w nums:List Val} (og:OkG g k c) (G:GAt K l (l+2) 2 g) (hK:K.length=l+1+2 * k) (lw:w.length=c) (hw:∀ v∈w,HV v) :
    OkG (g++[w]) (k+1) c /\ GAt (((K++[HObj.list nums])++[HObj.list w]).set l (HObj.list ((List.range g.length).map (fun i=>Val.loc (l+2+2 * i))++[Val.loc (K.length+1)]))) l (l+2) 2 (g++[w]):=by
  have lK:(K++[HObj.list nums]).length=K.length+1:=by rw [List.length_append];rfl
  have e2:Ext K (K++[HObj.list nums]++[HObj.list w]):=⟨[HObj.list nums,HObj.list w],by rw [List.append_assoc];rfl⟩
  refine ⟨⟨by rw [List.length_append,og.len];rfl,fun i z h=>?_⟩,⟨?_,fun i z h=>?_⟩⟩
  · rcases U2 h with h | ⟨_,rfl⟩
    · exact og.row i z h
    · exact ⟨lw,hw⟩
  · rw [Bb _ (e2.get G.top),List.length_append,List.length_singleton,List.range_succ,List.map_append,List.map_singleton,og.len,hK,show l+1+2 * k+1=l+2+2 * k by exact Ajn]
  · rcases U2 h with h | ⟨rfl,rfl⟩
    · exact Ao _ (by exact Aha) (e2.get (G.row i z h))
    · refine Ao _ (by exact Aha) ?_
      have:=Aj (K++[HObj.list nums]) (.list z)
      rw [lK,hK] at this
      rw [og.len,show l+2+2 * k=l+1+2 * k+1 by exact Ajo]
      exact this
inductive GInv (x0 x1 x2:Val) (l c:Nat):Nat -> Env' -> Hp -> Prop
  | mk {k:Nat} {K:Hp} (g:List (List Val)) (a b:Option Val) (og:OkG g k c) (G:GAt K l (l+2) 2 g) (hK:K.length=l+1+2 * k):GInv x0 x1 x2 l c k [some x0,some x1,some x2,some (.loc l),a,b] K
theorem Xy (ns:List Int):Wp (Af T_11 (d+3) 13 [.script ns]) H (fun v H'=>∃ r c g l,v=.loc l /\ OkS r c /\ r * c <= 63 /\ OkG g r c /\ GAt H' l (l+2) 2 g) NoE:=by
  refine Ah fun G kG=>?_
  refine ex2 (Xx (d:=d+1) (Gx ns 0)) fun r c zz=>Ad zz fun zn2 hsz=>?_;obtain ⟨hS,hrc⟩:=zn2
  refine kG ?_
  have hS':=hS
  unfold OkS at hS'
  rw [Ap (g:=Ze) rfl rfl]
  refine Ak (fun v H'=>v=.tup [.int r,.int c] /\ Ext H H') ?_ ?_
  · show Wp (Af T_11 (d+2) 8 [.script ns,.int ((0:Nat):Int)]) H _ _
    rw [Ew]
    exact hsz H
  clear hsz
  rintro _ H1 ⟨rfl,e1⟩
  refine Ak (fun v K=>∃ k:Nat,v=.int k /\ H1=K) ?_ ?_
  · show Wp (Af T_11 (d+2) 8 [.script ns,.int ((1:Nat):Int)]) H1 _ _
    rw [Ew]
    refine ex1 (Cm (Gx ns 1) 4 (by decide)) fun k zz=>Ad zz fun hk _=>?_
    exact ⟨by decide,k,congrArg Val.int hk,rfl⟩
  rintro _ _ ⟨kind,rfl,rfl⟩
  refine Ak (fun v K=>v=.loc H1.length /\ K=H1++[.list []]) ⟨rfl,rfl⟩ ?_
  rintro _ _ ⟨rfl,rfl⟩
  obtain ⟨I,hI⟩:=Dw (GInv (.script ns) (.tup [.int r,.int c]) (.int kind) H1.length c)
  refine Ce (I r) ?_ ?_
  · refine Em (n:=r) I ⟨rfl,rfl⟩ ⟨by exact Ahb hS',by exact Ahc hS'⟩ ((hI _ _ _).mpr (.mk [] _ _ ⟨rfl,fun i w h=>nomatch h⟩ ⟨Aj H1 _,fun i w h=>nomatch h⟩ (by rw [List.length_append];rfl))) ?_ (fun Γ K h=>by rw [Int.toNat_natCast] at h;exact h)
    intro k Γ K hk h
    obtain ⟨g,a,b,og,G,hK⟩:=(hI _ _ _).mp h
    refine Ak _ (Acd hS (by exact o43 hk)) ?_
    intro _ K1 zz
    refine ex1 zz fun nums zz=>Cg zz fun zr1 zr2 ln hn=>?_;subst zr1;subst zr2
    refine Ae3 G.top (by rw [List.length_map,List.length_range,og.len];exact Ajp hk hS') (by exact Ajq hS' ln) ln hn fun w lw hw=>(hI _ _ _).mpr ?_
    obtain ⟨og',G'⟩:=Ace (nums:=nums) og G hK lw hw
    exact .mk _ _ _ og' G' (by rw [List.length_set,List.length_append,List.length_append,hK];show _+1+1=_;exact Ajr)
  intro Γ K h
  refine Ah fun G kG=>?_
  obtain ⟨g,a,b,og,G,_⟩:=(hI _ _ _).mp h
  refine kG ?_
  exact ⟨r,c,g,_,rfl,hS,hrc,og,G⟩
theorem Xz {a b:Nat} {xs:List Val} {ds:List PyData} (ha:H[a]?=some (.list xs)) (hb:H[b]?=some (.list xs)) (hd:Jo (A6 H 5) xs=some ds) (hq:PyData.eqv (.list ds) (.list ds)=true):Gq H (.loc a) (.loc b)=some true:=by
  have e:∀ c,H[c]?=some (.list xs) -> A6 H Gp (.loc c)=some (.list ds):=fun c hc=>by
    have:A6 H (5+1) (.loc c)=(match H[c]? with | some (.list xs)=>(Jo (A6 H 5) xs).map .list | _=>none):=rfl
    show A6 H (5+1) (.loc c)=_
    rw [this,hc]
    show (Jo (A6 H 5) xs).map PyData.list=_
    rw [hd];rfl
  unfold Gq
  rw [e a ha,e b hb]
  show some (PyData.eqv _ _)=_
  rw [hq]
theorem Ags (K:Hp) (a b:Val) (h:Gq K a b=some true):Dy .ne a b K=some false:=by
  show Yr true (Gq K a b)=_
  rw [h];rfl
theorem Ah5 {l b s r c:Nat} {g:List (List Val)} (hS:OkS r c) (og:OkG g r c) (G:GAt H l b s g):∃ w x,g[0]?=some w /\ w[0]?=some x /\ HV x /\ w.length=c /\ ((List.range g.length).map fun i=>Val.loc (b+s * i))[0]?=some (.loc b) /\ H[b]?=some (.list w):=by
  unfold OkS at hS
  have lt:0 < g.length:=by rw [og.len];exact Adh hS
  have hg:g[0]?=some g[0]:=List.getElem?_eq_getElem lt
  obtain ⟨lw,hw⟩:=og.row 0 _ hg
  have lt':0 < g[0].length:=by exact Ajs hS lt lw
  have hx:g[0][0]?=some g[0][0]:=List.getElem?_eq_getElem lt'
  exact ⟨g[0],g[0][0],hg,hx,hw _ (List.mem_of_getElem? hx),lw,G.item lt,G.row 0 _ hg⟩
theorem LandAt.sink {o r c lg b s ls:Nat} {g:List (List Val)} {es es':List (Key × Val)} (L:LandAt H o r c lg b s ls g es):LandAt (H.set ls (.dict es')) o r c lg b s ls g es':=by
  refine ex1 L.inst fun fs zz=>Ad zz fun h0 h=>?_
  have hs:=L.sinks
  exact ⟨⟨fs,Ao _ (fun q=>by rw [q,h0] at hs;cases hs) h0,h⟩,L.grid.other _ (fun q=>by have:=L.grid.top;rw [<- q,hs] at this;cases this) (fun i hi q=>by have:=L.grid.row i _ (List.getElem?_eq_getElem hi);rw [<- q,hs] at this;cases this),Bb _ hs⟩
theorem Hz {l b s r c:Nat} {g:List (List Val)} (og:OkG g r c):((List.range g.length).map fun i=>Val.loc (b+s * i)).length=r:=by rw [List.length_map,List.length_range,og.len]
end
end Mine.Internal.Pure
namespace Mine.Internal.Pure
open PySem Pile
theorem H0 (es:List (Key × Val)) (k:Key) (v:Val) (k':Key):D5 (Fb es k v) k'=if k'=k then some v else D5 es k':=by
  unfold D5
  induction es with
  | nil =>
    show List.lookup k' [(k,v)]=_
    rw [List.lookup_cons]
    by_cases q:k'=k
    · rw [if_pos q,q,beq_self_eq_true]
    · rw [if_neg q,beq_eq_false_iff_ne.mpr q]
  | cons e es ih =>
    obtain ⟨a,b⟩:=e
    have st:Fb ((a,b) :: es) k v=if a=k then (a,v) :: es else (a,b) :: Fb es k v:=rfl
    rw [st]
    by_cases q:a=k
    · refine q▸?_
      rw [if_pos rfl,List.lookup_cons,List.lookup_cons]
      by_cases c:k'=a
      · rw [if_pos c,c,beq_self_eq_true]
      · rw [if_neg c,beq_eq_false_iff_ne.mpr c]
    · rw [if_neg q,List.lookup_cons,List.lookup_cons,ih]
      by_cases c:k'=a
      · rw [c,beq_self_eq_true]
        exact (if_neg q).symm
      · rw [beq_eq_false_iff_ne.mpr c]
theorem Dp (es:List (Key × Val)) (k:Key) (v:Val):(Fb es k v).length <= es.length+1:=by
  induction es with
  | nil=>exact Nat.le_refl _
  | cons e es ih =>
    obtain ⟨a,b⟩:=e
    have st:Fb ((a,b) :: es) k v=if a=k then (a,v) :: es else (a,b) :: Fb es k v:=rfl
    rw [st]
    by_cases q:a=k
    · rw [if_pos q];simp
    · rw [if_neg q];simp;omega
noncomputable def Has (es:List (Key × Val)) (F:Key -> Option Int):Prop:=∀ k,D5 es k=(F k).map Val.int
theorem Has.put {es:List (Key × Val)} {F:Key -> Option Int} (h:Has es F) (q:Key) (v:Int):Has (Fb es q (.int v)) (upd F q v):=by
  intro k
  rw [H0]
  by_cases c:k=q
  · rw [if_pos c,c,Bs];rfl
  · rw [if_neg c,Co _ _ c];exact h k
section
variable {T:Tab} {Φ:Funs} {Γ:Env'} {H:Hp} {Q:Val -> Hp -> Prop} {E:Nat -> Hp -> Prop} {d l:Nat} {QS:Env' -> Hp -> Prop} {R:Val -> Hp -> Prop} {ES:Nat -> Env' -> Hp -> Prop}
theorem Dm {l:Nat} {es:List (Key × Val)} {i j:Int} {v:Val} (h:H[l]?=some (.dict es)) (hv:D5 es (i,j)=some v):Wp (C5 (.loc l) (.tup [.int i,.int j])) H Q E=Q v H:=by
  have:C5 (.loc l) (.tup [.int i,.int j]) H=.ok v H:=by
    unfold C5;rw [Dh]
    simp only [h]
    rw [show (Ef (.tup [.int i,.int j])).bind (D5 es)=D5 es (i,j) from rfl,hv]
  unfold Wp;rw [this]
theorem Fq {l:Nat} {es:List (Key × Val)} {i j:Int} {v:Val} {Q:Unit -> Hp -> Prop} (h:H[l]?=some (.dict es)) (hl:es.length < lid):Wp (Ax (.loc l) (.tup [.int i,.int j]) v) H Q E=Q () (H.set l (.dict (Fb es (i,j) v))):=by
  have:Ax (.loc l) (.tup [.int i,.int j]) v H=.ok () (H.set l (.dict (Fb es (i,j) v))):=by
    unfold Ax;simp only [h]
    exact if_pos hl
  unfold Wp;rw [this]
theorem Ed {l:Nat} {es:List (Key × Val)} {i j:Int} (h:H[l]?=some (.dict es)):Dy .notin (.tup [.int i,.int j]) (.loc l) H=some (!(D5 es (i,j)).isSome):=by
  have e:Dy .notin (.tup [.int i,.int j]) (.loc l) H=Yr true (inV (.tup [.int i,.int j]) (.loc l) H):=rfl
  rw [e]
  unfold inV
  simp only [h]
  rfl
noncomputable def inR (r c:Nat) (k:Key):Bool:=decide (0 <= k.1 /\ k.1 < r /\ 0 <= k.2 /\ k.2 < c)
theorem Hc {r c:Nat} {k:Key} (h:inR r c k=true):∃ i j:Nat,k=((i:Int),(j:Int)) /\ i < r /\ j < c:=by
  obtain ⟨a,b⟩:=k
  have h:0 <= a /\ a < r /\ 0 <= b /\ b < c:=of_decide_eq_true h
  exact ⟨a.toNat,b.toNat,Prod.ext (show a=(a.toNat:Int) by exact Ajt h) (show b=(b.toNat:Int) by exact Aju h),by exact Ajv h,by exact Ajw h⟩
theorem Nu {r c i j:Nat} (hi:i < r) (hj:j < c):inR r c ((i:Int),(j:Int))=true:=decide_eq_true (show 0 <= (i:Int) /\ (i:Int) < r /\ 0 <= (j:Int) /\ (j:Int) < c by exact Ajx hi hj)
noncomputable def Ah6 (g:List (List Val)) (k:Key):Option Val:=(g[k.1.toNat]?).bind fun w=>w[k.2.toNat]?
noncomputable def Amr:Option Val -> Option Int
  | some (.int i)=>some i
  | _=>none
noncomputable def hgt (g:List (List Val)) (r c:Nat) (k:Key):Option Int:=if inR r c k=true then Amr (Ah6 g k) else none
theorem Ki {g:List (List Val)} {r c:Nat} {k:Key} {a:Int} (h:hgt g r c k=some a):inR r c k=true:=by
  unfold hgt at h
  by_cases q:inR r c k=true
  · exact q
  · rw [if_neg q] at h;cases h
theorem I4 {g:List (List Val)} {r c i j:Nat} (og:OkG g r c) (hi:i < r) (hj:j < c):∃ w x,g[i]?=some w /\ w[j]?=some x /\ ((x=.none /\ hgt g r c ((i:Int),(j:Int))=none) \/ ∃ n,x=.int n /\ 0 <= n /\ hgt g r c ((i:Int),(j:Int))=some n):=by
  refine Ah fun G kG=>?_
  obtain ⟨w,hw⟩:∃ w,g[i]?=some w:=⟨_,List.getElem?_eq_getElem (by rw [og.len];exact hi)⟩
  obtain ⟨lw,hv⟩:=og.row i _ hw
  obtain ⟨x,hx⟩:∃ x,w[j]?=some x:=⟨_,List.getElem?_eq_getElem (by rw [lw];exact hj)⟩
  refine kG ?_
  have e:Ah6 g ((i:Int),(j:Int))=some x:=by
    show (g[((i:Int)).toNat]?).bind (fun w=>w[((j:Int)).toNat]?)=_
    rw [Int.toNat_natCast,Int.toNat_natCast,hw]
    exact hx
  refine ⟨w,x,hw,hx,?_⟩
  unfold hgt
  rw [if_pos (Nu hi hj),e]
  rcases hv _ (List.mem_of_getElem? hx) with q | ⟨n,q,h0,_⟩
  · rw [q];exact .inl ⟨rfl,rfl⟩
  · rw [q];exact .inr ⟨n,rfl,h0,rfl⟩
noncomputable def bes (r c:Nat) (i j:Int):List Key:=(O6 i j).filter (inR r c)
theorem U5 {i j:Int} {q:Key}:q∈O6 i j↔Adj (i,j) q:=Iff.rfl
theorem Mm {r c:Nat} {i j:Int} {q:Key}:q∈bes r c i j↔(Adj (i,j) q /\ inR r c q=true):=by
  unfold bes;rw [List.mem_filter,U5]
theorem U6 (r c:Nat) (i j:Int):(bes r c i j).length <= 4:=List.length_filter_le _ _
theorem Ln {x lo hi:Int}:Wp (Af T_11 (d+1) 0 [.int x,.int lo,.int hi]) H Q E=Q (.bool (decide (lo <= x /\ x <= hi))) H:=by
  rw [Ap (g:=Rl) rfl rfl,Rl]
  simp only [List.map_cons,List.map_nil,List.replicate_zero,List.cons_append,List.nil_append,↓Ag,↓Bd,↓Du,↓Ca,↓By,↓Az,↓Ai,↓Ec,↓Ac,↓Ek,↓C0,↓Dj,↓Bp,↓Bv,↓Bw,↓A9,↓Il,↓As,↓Uh]
  by_cases h1:lo <= x
  · rw [D1 h1,show decide (x <= hi)=decide (lo <= x /\ x <= hi) from decide_eq_decide.mpr ⟨fun h=>⟨h1,h⟩,fun h=>h.2⟩]
  · rw [Cq h1,show decide (lo <= x /\ x <= hi)=false from decide_eq_false fun h=>h1 h.1]
theorem U7 {r c:Nat} {i j:Int}:Wp (Af T_11 (d+2) 1 [.int (r:Int),.int (c:Int),.tup [.int i,.int j]]) H Q E=Q (.bool (inR r c (i,j))) H:=by
  rw [Ap (g:=O1) rfl rfl,O1]
  simp only [List.map_cons,List.map_nil,List.replicate_zero,List.cons_append,List.nil_append,↓Ag,↓Bd,↓Du,↓Ca,↓By,↓Az,↓As,↓Ai,↓Dk,↓Ac,↓Ek,↓C0,↓A4,↓E7,↓Al,↓A5,↓C7,↓A3,↓Mg,↓Bv,↓Bw,↓A9,↓Fs,↓Ay,↓A8,↓Ez,↓B9,↓Nj,↓D3,↓Ik]
  rw [Ln,Ac]
  have e:∀ b,b=inR r c (i,j) -> Q (.bool b) H=Q (.bool (inR r c (i,j))) H:=fun b h=>by rw [h]
  rw [D1 (show (([Val.int i,Val.int j].length:Nat):Int)=2 from rfl)]
  by_cases h1:0 <= i /\ i <= (r:Int) - 1
  · rw [D1 h1,Ln]
    exact e _ (decide_eq_decide.mpr ⟨fun h=>⟨by exact Ahd h1,by exact Ahe h1,by exact Ahd h,by exact Ahe h⟩,fun h=>⟨by have:=h.2.2.1;omega,by have:=h.2.2.2;exact Ahf h⟩⟩)
  · rw [Cq h1]
    exact e _ (decide_eq_false fun h=>h1 ⟨h.1,by have:=h.2.1;exact Ahg h⟩).symm
theorem Mn {ks:List Key} {n:Nat} {x:Val} (h:(ks.map Aa)[n]?=some x):∃ q,ks[n]?=some q /\ x=Aa q:=by
  rw [List.getElem?_map] at h
  cases e:ks[n]? with
  | none=>rw [e] at h;cases h
  | some q=>rw [e] at h;cases h;exact ⟨q,rfl,rfl⟩
theorem U8 {it c:ME} {ks:List Key} {p:Key -> Bool} {n:Nat} (hn:Γ.length=n) (hl:H[l]?=some (.list (ks.map Aa))) (kl:ks.length < 1000) (hit:wpE T Φ it Γ H (fun v H'=>v=.loc l /\ H'=H) NoE)
    (ht:∀ q∈ks,wpE T Φ c (Γ++[some (Aa q)]) H (fun v H'=>v=.bool (p q) /\ H'=H) NoE) (q:Q (.loc H.length) (H++[.list ((ks.filter p).map Aa)])):wpE T Φ (.comp (.var n) it (.some c)) Γ H Q E:=by
  have hlid:lid=16777216:=rfl
  refine Ka (Ba hit ?_)
  rintro v H' ⟨rfl,rfl⟩
  rw [B0 (Bc hl)]
  refine Hx (fun k out K=>K=H' /\ out=((ks.take k).filter p).map Aa) ⟨rfl,rfl⟩ ?_ ?_ ?_
  · rintro k out K ⟨hr0,_⟩;refine Eq.symm hr0▸?_;exact Bk hl
  · rintro k x out K hx ⟨rfl,rfl⟩
    refine ex1 (Mn hx) fun q zz=>Ad zz fun hq zr2=>?_;subst zr2
    refine wp_step (Ba (ht q (List.mem_of_getElem? hq)) ?_)
    rintro v K' ⟨rfl,rfl⟩
    rw [Ac,Cf hq,List.filter_append,List.map_append]
    refine A7 (fun h=>?_) (fun h=>?_)
    · rw [List.filter_cons_of_pos h,Az,Eu,List.getElem?_append_right (by exact Ag2 hn),hn,Nat.sub_self]
      exact ⟨rfl,rfl⟩
    · rw [List.filter_cons_of_neg (by rw [h];exact Bool.false_ne_true)]
      exact ⟨rfl,rfl⟩
  · rintro zs K ⟨rfl,rfl⟩
    rw [show ks.take (List.map Aa ks).length=ks by rw [List.length_map];exact List.take_length]
    refine ⟨?_,q⟩
    rw [List.length_map]
    have:=List.length_filter_le p ks
    exact Ajy kl hlid this
theorem Rn {r c:Nat} {i j:Int}:Wp (Af T_11 (d+3) 2 [.int (r:Int),.int (c:Int),.tup [.int i,.int j]]) H (fun v H'=>∃ m,v=.loc m /\ H.length <= m /\ Ext H H' /\ H'[m]?=some (.list ((bes r c i j).map Aa))) NoE:=by
  rw [Ap (g:=Abx) rfl rfl,Abx]
  show wpE T_11 (Af T_11 (d+2)) (.comp (.var 6) (.var 5) (.some (.call 1 (.cons (.var 0) (.cons (.var 1) (.cons (.var 6) .nil)))))) [some (.int (r:Int)),some (.int (c:Int)),some (.tup [.int i,.int j]),some (.int i),some (.int j),some (.loc H.length)] (H++[HObj.list ((O6 i j).map Aa)]) _ _
  have e0:Ext H (H++[HObj.list ((O6 i j).map Aa)]):=⟨_,rfl⟩
  refine U8 (l:=H.length) (ks:=O6 i j) (p:=inR r c) rfl (Aj H _) (show 4 < 1000 by decide) ⟨rfl,rfl⟩ (fun q _=>?_) ⟨_,rfl,by rw [List.length_append];exact Ag6,e0.new _,Aj _ _⟩
  show Wp (Af T_11 (d+2) 1 [.int (r:Int),.int (c:Int),.tup [.int q.1,.int q.2]]) _ _ _
  rw [U7]
  exact ⟨rfl,rfl⟩
end
structure FS (H K:Hp) (lf lo lp lh:Nat) (es gs:List (Key × Val)) (xs:List Val):Prop where
  ext:Ext H K
  bf:H.length <= lf
  bo:H.length <= lo
  bh:H.length <= lh
  ne:lf≠lo
  f:K[lf]?=some (.dict es)
  o:K[lo]?=some (.dict gs)
  p:K[lp]?=some (.inst 8 [(4,.loc lh)])
  h:K[lh]?=some (.list xs)
section
variable {H K:Hp} {lf lo lp lh:Nat} {es gs:List (Key × Val)} {xs:List Val}
theorem FS.more {K':Hp} (x:FS H K lf lo lp lh es gs xs) (e:Ext K K'):FS H K' lf lo lp lh es gs xs:=⟨x.ext.trans e,x.bf,x.bo,x.bh,x.ne,e.get x.f,e.get x.o,e.get x.p,e.get x.h⟩
theorem Br {K:Hp} {a b:Nat} {o o':HObj} (h:K[a]?=some o) (h':K[b]?=some o') (n:o≠o'):a≠b:=fun e=>n (Option.some.inj (by rw [<- h,<- h',e]))
theorem FS.setF (x:FS H K lf lo lp lh es gs xs) (es':List (Key × Val)):FS H (K.set lf (.dict es')) lf lo lp lh es' gs xs :=
  ⟨x.ext.set x.bf _,x.bf,x.bo,x.bh,x.ne,Bb _ x.f,Ao _ x.ne x.o,Ao _ (Br x.f x.p (by intro c;cases c)) x.p,Ao _ (Br x.f x.h (by intro c;cases c)) x.h⟩
theorem FS.setO (x:FS H K lf lo lp lh es gs xs) (gs':List (Key × Val)):FS H (K.set lo (.dict gs')) lf lo lp lh es gs' xs :=
  ⟨x.ext.set x.bo _,x.bf,x.bo,x.bh,x.ne,Ao _ (Ne.symm x.ne) x.f,Bb _ x.o,Ao _ (Br x.o x.p (by intro c;cases c)) x.p,Ao _ (Br x.o x.h (by intro c;cases c)) x.h⟩
theorem FS.setH (x:FS H K lf lo lp lh es gs xs) (ys:List Val):FS H (K.set lh (.list ys)) lf lo lp lh es gs ys :=
  ⟨x.ext.set x.bh _,x.bf,x.bo,x.bh,x.ne,Ao _ (Br x.h x.f (by intro c;cases c)) x.f,Ao _ (Br x.h x.o (by intro c;cases c)) x.o,Ao _ (Br x.h x.p (by intro c;cases c)) x.p,Bb _ x.h⟩
theorem FS.only {K':Hp} {ys:List Val} (x:FS H K lf lo lp lh es gs xs) (o:Only lh K K') (h:K'[lh]?=some (.list ys)):FS H K' lf lo lp lh es gs ys :=
  ⟨Z0 fun m ob hm=>o.keep m ob (by have:=Bq hm;have:=x.bh;omega) (x.ext.get hm),x.bf,x.bo,x.bh,x.ne,o.keep _ _ (Br x.f x.h (by intro c;cases c)) x.f,o.keep _ _ (Br x.o x.h (by intro c;cases c)) x.o,o.keep _ _ (Br x.p x.h (by intro c;cases c)) x.p,h⟩
theorem FS.lt (x:FS H K lf lo lp lh es gs xs):lh < K.length:=Bq x.h
end
noncomputable def Gy (r c:Nat):List Key:=(List.range r).flatMap fun (i:Nat)=>(List.range c).map fun (j:Nat)=>((i:Int),(j:Int))
theorem Iu (r c:Nat):(Gy r c).map Aa=cells r c:=by
  unfold Gy cells B4
  rw [List.map_flatMap]
  congr 1
  funext i
  rw [List.map_map];rfl
theorem H6 (r c:Nat):(Gy r c).length=r * c:=by
  rw [<- Gg,<- Iu,List.length_map]
theorem Gm {r c:Nat} {k:Key}:k∈Gy r c↔inR r c k=true:=by
  unfold Gy
  constructor
  · intro h
    refine ex1 (List.mem_flatMap.mp h) fun i zz=>Ad zz fun hi h=>?_
    refine ex1 (List.mem_map.mp h) fun j zz=>Ad zz fun hj zr2=>?_;subst zr2
    exact Nu (List.mem_range.mp hi) (List.mem_range.mp hj)
  · intro h
    refine ex2 (Hc h) fun i j zz=>Av zz fun zr2 hi hj=>?_;subst zr2
    exact List.mem_flatMap.mpr ⟨i,List.mem_range.mpr hi,List.mem_map.mpr ⟨j,List.mem_range.mpr hj,rfl⟩⟩
theorem Dx {a b:Key} (h:Aa a=Aa b):a=b:=by
  have:Ef (Aa a)=Ef (Aa b):=by rw [h]
  exact Option.some.inj this
theorem U9 (i c:Nat):(B4 i c).Nodup:=by
  induction c with
  | zero=>exact List.nodup_nil
  | succ c ih =>
    rw [Hy]
    refine It ih fun h=>?_
    unfold B4 at h
    refine ex1 (List.mem_map.mp h) fun j zz=>Ad zz fun hj e=>?_
    have:=Dx (a:=((i:Int),(j:Int))) (b:=((i:Int),(c:Int))) e
    have:=(Prod.mk.inj this).2
    have:=List.mem_range.mp hj
    omega
theorem Kj (r c:Nat):(cells r c).Nodup:=by
  induction r with
  | zero=>exact List.nodup_nil
  | succ r ih =>
    rw [Ir,List.nodup_append]
    refine ⟨ih,U9 r c,fun a ha b hb e=>?_⟩
    refine ex2 (Jg ha) fun i j zz=>Av zz fun zr2 hi _=>?_;subst zr2
    unfold B4 at hb
    refine ex1 (List.mem_map.mp hb) fun j' zz=>Ad zz fun _ zr2=>?_;subst zr2
    have:=Dx (a:=((i:Int),(j:Int))) (b:=((r:Int),(j':Int))) e
    have:=(Prod.mk.inj this).1
    exact Ajz this hi
theorem X0 {α:Type} {l:List α} {n:Nat} {x:α} (h:l.Nodup) (hx:l[n]?=some x):¬ x∈l.take n:=by
  intro c
  obtain ⟨m,hm⟩:=List.mem_iff_getElem?.mp c
  have lm:m < n:=by
    have:=(List.getElem?_eq_some_iff.mp hm).1
    rw [List.length_take] at this;exact Aj0 this
  rw [List.getElem?_take_of_lt lm] at hm
  obtain ⟨l1,e1⟩:=List.getElem?_eq_some_iff.mp hx
  obtain ⟨l2,e2⟩:=List.getElem?_eq_some_iff.mp hm
  have:=(List.getElem_inj (h₀:=l2) (h₁:=l1) h).mp (by rw [e1,e2])
  exact o21 lm this
theorem Va {p:Key} {U:List Key} (h:p∈U):(U.filter fun k=>decide (k≠p)).length+1 <= U.length:=by
  have:=List.length_filter_lt_length_iff_exists (p:=fun k=>decide (k≠p)) (l:=U)
  have:=this.mpr ⟨p,h,by simp⟩
  exact Aj1 this
theorem Eb {α:Type} {l:List α} {n:Nat} {x y:α} (h:l[n]?=some x):y∈l.take (n+1)↔(y∈l.take n \/ y=x):=by
  rw [Cf h,List.mem_append,List.mem_singleton]
noncomputable def Ams (h:Key -> Option Int) (D:Key -> Prop) (F:Key -> Option Int) (U:List Key) (gs:List (Key × Val)) (rk:Key -> Nat) (k:Key) (f:Int):Prop :=
  (D k /\ D5 gs k=some .none) \/ (¬ D k /\ ∃ p a fp,D5 gs k=some (Aa p) /\ Adj p k /\ ¬ p∈U /\ h k=some a /\ F p=some fp /\ f=mx a fp /\ rk p < rk k)
structure Go (h:Key -> Option Int) (D:Key -> Prop) (F:Key -> Option Int) (U:List Key) (gs:List (Key × Val)):Prop where
  no:∀ k,F k=none -> D5 gs k=none
  rk:∃ rk:Key -> Nat,∀ k f,F k=some f -> Ams h D F U gs rk k f
section
variable {h:Key -> Option Int} {D C:Key -> Prop} {O O':Key -> Key -> Prop} {F:Key -> Option Int} {xs:List Val} {U:List Key} {m:Int} {gs:List (Key × Val)}
theorem Go.sub {U':List Key} (x:Go h D F U gs) (hU:∀ k,k∈U' -> k∈U):Go h D F U' gs:=by
  refine ⟨x.no,?_⟩
  obtain ⟨rk,hr⟩:=x.rk
  refine ⟨rk,fun k f hf=>?_⟩
  rcases hr k f hf with w | ⟨n,p,a,fp,h1,h2,h3,h4⟩
  · exact .inl w
  · exact .inr ⟨n,p,a,fp,h1,h2,fun c=>h3 (hU p c),h4⟩
theorem Fl.inU {L a:Int} {q:Key} (x:Fl h D C O F xs U L) (hC:C q) (new:∀ f,F q=some f -> mx a L < f):q∈U:=Classical.byContradiction fun n=>by
  have hL:=Afo a L
  cases hf:F q with
  | none=>exact x.seen q hC n hf
  | some f =>
    have:=(x.done q f hf n).2
    have:=new f hf
    omega
theorem Fl.notD {L a:Int} {q:Key} (x:Fl h D C O F xs U L) (ha:h q=some a) (new:∀ f,F q=some f -> mx a L < f):¬ D q:=fun d=>by
  have:=new a ((x.drain q d).trans ha)
  have:=Ae2 a L
  omega
theorem H7 (gs:List (Key × Val)) (q:Key) (v:Val):D5 (Fb gs q v) q=some v:=by rw [H0,if_pos rfl]
theorem En (gs:List (Key × Val)) {q k:Key} (v:Val) (n:k≠q):D5 (Fb gs q v) k=D5 gs k:=by rw [H0,if_neg n]
theorem Go.put {L a:Int} {p q:Key} (g:Go h D F U gs) (hp:¬ p∈U) (hq:q∈U) (nd:¬ D q) (hF:F p=some L) (hA:Adj p q) (ha:h q=some a):Go h D (upd F q (mx a L)) U (Fb gs q (Aa p)):=by
  have off:∀ {k:Key},¬ k∈U -> k≠q:=fun n e=>n (e▸hq)
  refine ⟨fun k hk=>?_,?_⟩
  · by_cases e:k=q
    · rw [e,Bs] at hk;cases hk
    · rw [Co _ _ e] at hk
      rw [En _ _ e];exact g.no k hk
  · obtain ⟨rk,hr⟩:=g.rk
    refine ⟨fun k=>if k=q then rk p+1 else rk k,fun k f hf=>?_⟩
    by_cases e:k=q
    · subst e
      rw [Bs] at hf
      cases hf
      refine .inr ⟨nd,p,a,L,H7 _ _ _,hA,hp,ha,(Co _ _ (off hp)).trans hF,rfl,?_⟩
      dsimp only
      rw [if_neg (off hp),if_pos rfl];exact Nat.lt_succ_self _
    · rw [Co _ _ e] at hf
      rcases hr k f hf with ⟨w1,w2⟩ | ⟨n,p',b,fp,h1,h2,h3,h4,h5,h6,h7⟩
      · exact .inl ⟨w1,(En _ _ e).trans w2⟩
      · refine .inr ⟨n,p',b,fp,(En _ _ e).trans h1,h2,h3,h4,(Co _ _ (off h3)).trans h5,h6,?_⟩
        dsimp only
        rw [if_neg (off h3),if_neg e];exact h7
theorem Go.opened {q:Key} {a:Int} (g:Go h D F U gs) (on:∀ k f,F k=some f -> D k):Go h (fun k=>D k \/ k=q) (upd F q a) U (Fb gs q .none):=by
  refine ⟨fun k hk=>?_,fun _=>0,fun k f hf=>?_⟩
  · by_cases e:k=q
    · rw [e,Bs] at hk;cases hk
    · rw [Co _ _ e] at hk
      rw [En _ _ e];exact g.no k hk
  · by_cases e:k=q
    · exact .inl ⟨.inr e,e▸H7 _ _ _⟩
    · rw [Co _ _ e] at hf
      obtain ⟨rk,hr⟩:=g.rk
      rcases hr k f hf with ⟨w1,w2⟩ | ⟨n,_⟩
      · exact .inl ⟨.inl w1,(En _ _ e).trans w2⟩
      · exact absurd (on k f hf) n
structure Fg (h:Key -> Option Int) (D C:Key -> Prop) (O:Key -> Key -> Prop) (F:Key -> Option Int) (xs:List Val) (U:List Key) (m:Int) (gs:List (Key × Val)):Prop where
  fl:Fl h D C O F xs U m
  go:Go h D F U gs
theorem Fg.perm {ys:List Val} (x:Fg h D C O F xs U m gs) (p:ys.Perm xs):Fg h D C O F ys U m gs:=⟨x.fl.perm p,x.go⟩
theorem Fg.start (hU:∀ k,C k -> k∈U):Fg h (fun _=>False) C O (fun _=>none) [] U 0 []:=⟨Fl.start hU,fun _ _=>rfl,fun _=>0,fun k f hf=>nomatch hf⟩
theorem Fg.opened {q:Key} {a:Int} (x:Fg h D C O F xs U 0 gs) (on:∀ k f,F k=some f -> D k) (all:∀ k,¬ k∈U -> F k=none) (hF:F q=none) (ha:h q=some a) (h0:0 <= a) (hq:q∈U):Fg h (fun k=>D k \/ k=q) C O (upd F q a) (xs++[ent a q]) U 0 (Fb gs q .none):=⟨x.fl.opened all hF ha h0 hq,x.go.opened on⟩
theorem Fg.stale {L:Int} {p:Key} {t:List Val} (x:Fg h D C O F (ent L p :: t) U m gs) (hF:F p≠some L):Fg h D C O F t U m gs:=⟨x.fl.stale hF,x.go⟩
theorem Fg.pop {L:Int} {p:Key} {t:List Val} (x:Fg h D C (fun _ _=>False) F (ent L p :: t) U m gs) (least:∀ y∈t,klt y (ent L p)=false) (hF:F p=some L) :
    p∈U /\ Fg h D C (fun p' _=>p'=p) F t (U.filter fun k=>decide (k≠p)) L gs :=
  ⟨(x.fl.pop least hF).1,(x.fl.pop least hF).2,x.go.sub fun k hk=>(List.mem_filter.mp hk).1⟩
theorem Fg.skip {L:Int} {p q:Key} (x:Fg h D C O F xs U m gs) (hO:∀ p' q',O p' q' -> O' p' q' \/ (p'=p /\ q'=q)) (hF:F p=some L) (hq:∀ a,h q=some a -> ∃ fq,F q=some fq /\ fq <= mx a L):Fg h D C O' F xs U m gs:=⟨x.fl.skip hO hF hq,x.go⟩
theorem Fg.put {L a:Int} {p q:Key} (x:Fg h D C O F xs U L gs) (hO:∀ p' q',O p' q' -> O' p' q' \/ (p'=p /\ q'=q)) (hp:¬ p∈U) (hF:F p=some L) (hC:C q) (hA:Adj p q) (ha:h q=some a) (new:∀ f,F q=some f -> mx a L < f) :
    Fg h D C O' (upd F q (mx a L)) (xs++[ent (mx a L) q]) U L (Fb gs q (Aa p)) :=
  ⟨x.fl.put hO hp hF hC hA ha new,x.go.put hp (x.fl.inU hC new) (x.fl.notD ha new) hF hA ha⟩
theorem Fg.ents (x:Fg h D C O F xs U m gs):∀ y∈xs,∃ l k,y=ent l k /\ m <= l /\ ∃ f,F k=some f /\ f <= l:=x.fl.ents
end
structure Fst where
  F:Key -> Option Int
  gs:List (Key × Val)
  xs:List Val
noncomputable def Eqv (s t:Fst):Prop:=s.F=t.F /\ s.gs=t.gs /\ s.xs.Perm t.xs
theorem Eqv.refl (s:Fst):Eqv s s:=⟨rfl,rfl,.refl _⟩
theorem Eqv.of_eq {s t:Fst} (h:s=t):Eqv s t:=h▸Eqv.refl s
theorem Eqv.symm {s t:Fst} (h:Eqv s t):Eqv t s:=⟨h.1.symm,h.2.1.symm,h.2.2.symm⟩
theorem Eqv.trans {s t u:Fst} (h:Eqv s t) (k:Eqv t u):Eqv s u:=⟨h.1.trans k.1,h.2.1.trans k.2.1,h.2.2.trans k.2.2⟩
noncomputable def low (o:Option Int) (l:Int):Bool:=match o with
  | some f=>decide (f <= l)
  | none=>false
noncomputable def Hd (h:Key -> Option Int) (p:Key) (L:Int) (s:Fst) (q:Key):Fst:=match h q with
  | none=>s
  | some a=>if low (s.F q) (mx a L)=true then s else ⟨upd s.F q (mx a L),Fb s.gs q (Aa p),s.xs++[ent (mx a L) q]⟩
section
variable {h:Key -> Option Int} {p q:Key} {L a f:Int} {s t:Fst}
theorem Iv (e:h q=none):Hd h p L s q=s:=by unfold Hd;rw [e]
theorem Vb (e:h q=some a) (hf:s.F q=some f) (l:f <= mx a L):Hd h p L s q=s:=by
  unfold Hd;rw [e]
  exact if_pos (by rw [hf];exact decide_eq_true l)
theorem Vc (e:h q=some a) (new:∀ f,s.F q=some f -> mx a L < f):Hd h p L s q=⟨upd s.F q (mx a L),Fb s.gs q (Aa p),s.xs++[ent (mx a L) q]⟩:=by
  unfold Hd;rw [e]
  refine if_neg fun c=>?_
  cases hf:s.F q with
  | none=>rw [hf] at c;cases c
  | some f =>
    rw [hf] at c
    have:=of_decide_eq_true (show decide (f <= mx a L)=true from c)
    have:=new f hf
    omega
theorem Nv (w:Eqv s t):Eqv (Hd h p L s q) (Hd h p L t q):=by
  obtain ⟨F,gs,xs⟩:=s
  obtain ⟨F',gs',ys⟩:=t
  refine Av w fun zr0 zr1 w=>?_;subst zr0;subst zr1
  cases e:h q with
  | none=>rw [Iv e,Iv e];exact ⟨rfl,rfl,w⟩
  | some a =>
    unfold Hd
    rw [e]
    by_cases c:low (F q) (mx a L)=true
    · dsimp only;rw [if_pos c,if_pos c];exact ⟨rfl,rfl,w⟩
    · dsimp only;rw [if_neg c,if_neg c];exact ⟨rfl,rfl,w.append_right _⟩
theorem P8 (ks:List Key):∀ {s t:Fst},Eqv s t -> Eqv (ks.foldl (Hd h p L) s) (ks.foldl (Hd h p L) t):=by
  induction ks with
  | nil=>exact fun w=>w
  | cons k ks ih=>exact fun w=>ih (Nv w)
end
noncomputable def Acf (h:Key -> Option Int) (r c:Nat) (s:Fst) (L:Int) (p:Key) (t:List Val):Fst :=
  if s.F p=some L then (bes r c p.1 p.2).foldl (Hd h p L) ⟨s.F,s.gs,t⟩ else ⟨s.F,s.gs,t⟩
noncomputable def Acg (xs:List Val) (L:Int) (p:Key) (t:List Val):Prop:=xs.Perm (ent L p :: t) /\ ∀ y∈t,klt y (ent L p)=false
open Classical in
noncomputable def next (h:Key -> Option Int) (r c:Nat) (s:Fst):Fst :=
  if x:∃ m:Int × Key × List Val,Acg s.xs m.1 m.2.1 m.2.2 then Acf h r c s (choose x).1 (choose x).2.1 (choose x).2.2 else s
theorem Vd {xs:List Val} {L L':Int} {p p':Key} {t t':List Val} (x:Acg xs L p t) (y:Acg xs L' p' t') (dc:∀ y∈xs,DC y):L=L' /\ p=p' /\ t.Perm t':=by
  have pm:(ent L p :: t).Perm (ent L' p' :: t'):=x.1.symm.trans y.1
  have e:ent L p=ent L' p':=by
    rcases List.mem_cons.mp (pm.mem_iff.mp (.head _)) with e | m
    · exact e
    · rcases List.mem_cons.mp (pm.symm.mem_iff.mp (.head _)) with e | m'
      · exact e.symm
      · have h1:=y.2 _ m
        have h2:=x.2 _ m'
        exact Uw (Nt _ _) (Nt _ _) (P5 _ _ h1 h2)
  obtain ⟨rfl,rfl⟩:=Hb e
  exact ⟨rfl,rfl,pm.cons_inv⟩
theorem Ach {h:Key -> Option Int} {r c:Nat} {s:Fst} {L:Int} {p:Key} {t:List Val} (x:Acg s.xs L p t) (dc:∀ y∈s.xs,DC y):Eqv (next h r c s) (Acf h r c s L p t):=by
  have ex:∃ m:Int × Key × List Val,Acg s.xs m.1 m.2.1 m.2.2:=⟨(L,p,t),x⟩
  unfold next
  rw [dif_pos ex]
  refine Av (Vd (Classical.choose_spec ex) x dc) fun e1 e2 pm=>?_
  rw [e1,e2]
  unfold Acf
  by_cases c:s.F p=some L
  · rw [if_pos c,if_pos c];exact P8 _ ⟨rfl,rfl,pm⟩
  · rw [if_neg c,if_neg c];exact ⟨rfl,rfl,pm⟩
theorem X1 {h:Key -> Option Int} {r c:Nat} {s:Fst} (e:s.xs=[]):next h r c s=s:=by
  unfold next
  refine dif_neg ?_
  rintro ⟨m,x,_⟩
  rw [e] at x
  exact absurd x.length_eq (by simp)
noncomputable def iter (h:Key -> Option Int) (r c:Nat) (s:Fst):Nat -> Fst
  | 0=>s
  | n+1=>next h r c (iter h r c s n)
noncomputable def An (h:Key -> Option Int) (r c:Nat) (s0 s:Fst):Prop:=∃ n,Eqv s (iter h r c s0 n)
section
variable {h:Key -> Option Int} {r c:Nat} {s0 s t:Fst}
theorem An.start (w:Eqv s s0):An h r c s0 s:=⟨0,w⟩
theorem An.eqv (x:An h r c s0 s) (w:Eqv t s):An h r c s0 t:=x.elim fun n e=>⟨n,w.trans e⟩
theorem An.next {L:Int} {p:Key} {ys:List Val} (x:An h r c s0 s) (y:Acg s.xs L p ys) (dc:∀ y∈s.xs,DC y):An h r c s0 (Acf h r c s L p ys):=by
  obtain ⟨n,e⟩:=x
  refine ⟨n+1,Eqv.symm ?_⟩
  have y':Acg (iter h r c s0 n).xs L p ys:=⟨e.2.2.symm.trans y.1,y.2⟩
  refine (Ach y' fun z hz=>dc z (e.2.2.mem_iff.mpr hz)).trans ?_
  unfold Acf
  refine Av e fun e1 e2 _=>?_
  rw [<- e1,<- e2]
  exact Eqv.refl _
theorem iter_end {n k:Nat} (e:(iter h r c s0 n).xs=[]):iter h r c s0 (n+k)=iter h r c s0 n:=by
  induction k with
  | zero=>rfl
  | succ k ih=>show next h r c (iter h r c s0 (n+k))=_;rw [ih];exact X1 e
theorem An.uniq (x:An h r c s0 s) (y:An h r c s0 t) (es:s.xs=[]) (et:t.xs=[]):s.F=t.F /\ s.gs=t.gs:=by
  obtain ⟨n,x⟩:=x
  obtain ⟨m,y⟩:=y
  have xe:(iter h r c s0 n).xs=[]:=List.Perm.nil_eq (es▸x.2.2) |>.symm
  have ye:(iter h r c s0 m).xs=[]:=List.Perm.nil_eq (et▸y.2.2) |>.symm
  have e:iter h r c s0 n=iter h r c s0 m:=by
    rcases Nat.le_total n m with l | l
    · obtain ⟨k,hr0⟩:=Nat.exists_eq_add_of_le l;refine Eq.symm hr0▸?_
      exact (iter_end xe).symm
    · obtain ⟨k,hr1⟩:=Nat.exists_eq_add_of_le l;refine Eq.symm hr1▸?_
      exact iter_end ye
  rw [e] at x
  exact ⟨x.1.trans y.1.symm,x.2.1.trans y.2.1.symm⟩
end
noncomputable def Ve (h:Key -> Option Int) (s:Fst) (v:Val):Fst:=match Ef v with
  | some k=>(match h k with
    | some a=>⟨upd s.F k a,Fb s.gs k .none,s.xs++[ent a k]⟩
    | none=>s)
  | none=>s
noncomputable def He (h:Key -> Option Int) (vs:List Val):Fst:=vs.foldl (Ve h) ⟨fun _=>none,[],[]⟩
theorem Vf {h:Key -> Option Int} {s:Fst} {k:Key} {a:Int} (e:h k=some a):Ve h s (Aa k)=⟨upd s.F k a,Fb s.gs k .none,s.xs++[ent a k]⟩:=by
  show (match h k with
    | some a=>(⟨upd s.F k a,Fb s.gs k .none,s.xs++[ent a k]⟩:Fst)
    | none=>s)=_
  rw [e]
theorem Ro {h:Key -> Option Int} {vs:List Val} {k:Key} {a:Int} {F:Key -> Option Int} {gs:List (Key × Val)} {xs ys:List Val} (e:h k=some a) (w:Eqv ⟨F,gs,xs⟩ (He h vs)) (p:ys.Perm (xs++[ent a k])):Eqv ⟨upd F k a,Fb gs k .none,ys⟩ (He h (vs++[Aa k])):=by
  unfold He at w ⊢
  rw [List.foldl_append]
  show Eqv _ (Ve h _ (Aa k))
  rw [Vf e]
  refine Av w fun e1 e2 e3=>?_
  have e1:F=_:=e1
  have e2:gs=_:=e2
  rw [<- e1,<- e2]
  exact ⟨rfl,rfl,p.trans (e3.append_right _)⟩
theorem Fl.close {h:Key -> Option Int} {D C:Key -> Prop} {O O':Key -> Key -> Prop} {F:Key -> Option Int} {xs:List Val} {U:List Key} {m:Int} (x:Fl h D C O F xs U m) (hc:∀ p q a,O p q -> Adj p q -> h q=some a -> False):Fl h D C O' F xs U m :=
  ⟨x.ents,x.nd,x.here,x.done,x.seen,x.drain,x.snd,fun p fp hf hp q hq _ a ha=>by
    by_cases o:O p q
    · exact (hc p q a o hq ha).elim
    · exact x.near p fp hf hp q hq o a ha⟩
theorem Fl.dc {h:Key -> Option Int} {D C:Key -> Prop} {O:Key -> Key -> Prop} {F:Key -> Option Int} {xs:List Val} {U:List Key} {m:Int} (x:Fl h D C O F xs U m):∀ y∈xs,DC y:=fun y hy=>by
  refine ex2 (x.ents y hy) fun l k zz=>Ad zz fun hr0 _=>?_;refine Eq.symm hr0▸?_
  exact Nt l k
theorem Fg.close {h:Key -> Option Int} {D C:Key -> Prop} {O O':Key -> Key -> Prop} {F:Key -> Option Int} {xs:List Val} {U:List Key} {m:Int} {gs:List (Key × Val)} (x:Fg h D C O F xs U m gs) (hc:∀ p q a,O p q -> Adj p q -> h q=some a -> False):Fg h D C O' F xs U m gs:=⟨x.fl.close hc,x.go⟩
theorem Fg.dc {h:Key -> Option Int} {D C:Key -> Prop} {O:Key -> Key -> Prop} {F:Key -> Option Int} {xs:List Val} {U:List Key} {m:Int} {gs:List (Key × Val)} (x:Fg h D C O F xs U m gs):∀ y∈xs,DC y:=x.fl.dc
section
variable {H K:Hp} {d:Nat} {QS:Env' -> Hp -> Prop} {R:Val -> Hp -> Prop} {o r c lg b s ls lf lo lp lh:Nat} {g:List (List Val)} {es0 es gs:List (Key × Val)} {xs:List Val} {D:Key -> Prop} {F:Key -> Option Int} {U:List Key} {L m:Int} {x4 x5 x6 x7 x8:Option Val}
theorem X2 {i j:Nat} {p:Key} {v:Int} (x:FS H K lf lo lp lh es gs xs) (dc:∀ y∈xs,DC y) (pile:Bt klt xs) (n1:xs.length < 1000) (n2:es.length < 2000) (n3:gs.length < 2000)
    (q:∀ K' ys,FS H K' lf lo lp lh (Fb es ((i:Int),(j:Int)) (.int v)) (Fb gs ((i:Int),(j:Int)) (Aa p)) ys -> ys.Perm (xs++[ent v ((i:Int),(j:Int))]) -> Bt klt ys -> (∀ m,m≠lf -> m≠lo -> m≠lh -> K'[m]?=K[m]?) -> QS [some (.loc o),some (.loc lf),some (.loc lo),some (.loc lp),some (.tup [.int (i:Int),.int (j:Int)]),some (ent L p),x6,some (.int v)] K') :
    wpSs T_11 (Af T_11 (d+4)) (.cons (.setitem (.var 1) (.var 4) (.var 7)) (.cons (.setitem (.var 2) (.var 4) (.sub (.var 5) (.int 1))) (.cons (.expr (.umeth (.var 3) 6 (.cons (.tup (.cons (.var 7) (.cons (.var 4) .nil))) .nil))) .nil)))
      [some (.loc o),some (.loc lf),some (.loc lo),some (.loc lp),some (.tup [.int (i:Int),.int (j:Int)]),some (ent L p),x6,some (.int v)] K QS R NoX:=by
  have hlid:lid=16777216:=rfl
  have x1:=x.setF (Fb es ((i:Int),(j:Int)) (.int v))
  have x2:=x1.setO (Fb gs ((i:Int),(j:Int)) (Aa p))
  simp only [↓Ag,↓Be,↓Ev,↓Bv,↓Az,↓A8,↓A3,↓Cb,↓Al,↓A5,↓Dd,↓Dt,↓Ai,↓As]
  rw [Fq x.f (by exact Afk n2 hlid)]
  show Wp (Ax (.loc lo) (.tup [.int (i:Int),.int (j:Int)]) (Aa p)) _ _ _
  rw [Fq x1.o (by exact Afk n3 hlid),Kg x2.p (show T_11.meth 8 6=some 30 from rfl)]
  refine (Uy (d+3) Mi x2.p x2.h dc (Nt v ((i:Int),(j:Int))) pile n1).then ?_
  rintro w K' ⟨_,ys,hr0,hp,hpile⟩;refine Eq.symm hr0▸?_
  refine q _ ys (x2.setH ys) hp hpile fun m h1 h2 h3=>?_
  rw [List.getElem?_set_ne (Ne.symm h3),List.getElem?_set_ne (Ne.symm h2),List.getElem?_set_ne (Ne.symm h1)]
theorem Aci {i j:Nat} {a:Int} (x:FS H K lf lo lp lh es gs xs) (hes:Has es F):∃ t:Bool,(t=true -> ∀ f,F ((i:Int),(j:Int))=some f -> a < f) /\ (t=false -> ∃ f,F ((i:Int),(j:Int))=some f /\ f <= a) /\
    wpE T_11 (Af T_11 (d+4)) (.or (.cmp .notin (.var 4) (.var 1)) (.cmp .lt (.var 7) (.sub (.var 1) (.var 4)))) [x4,some (.loc lf),x5,x6,some (.tup [.int (i:Int),.int (j:Int)]),x7,x8,some (.int a)] K (fun v K'=>v=.bool t /\ K'=K) NoE:=by
  have hk:=hes ((i:Int),(j:Int))
  cases hf:F ((i:Int),(j:Int)) with
  | none =>
    rw [hf] at hk
    refine ⟨true,(fun _ f h=>nomatch h),(fun h=>nomatch h),?_⟩
    simp only [↓Du,↓A4,↓Az,↓A8,↓Dt,↓Ai,↓As]
    rw [B0 (Ed x.f),hk]
    exact ⟨trivial,trivial⟩
  | some f =>
    rw [hf] at hk
    refine ⟨decide (a < f),fun h f' h'=>?_,fun h=>⟨f,rfl,?_⟩,?_⟩
    · cases h';exact of_decide_eq_true h
    · have:=of_decide_eq_false h;exact Afj this
    · simp only [↓Du,↓A4,↓Az,↓A8,↓Dt,↓Ai,↓As]
      rw [B0 (Ed x.f),hk]
      show Wp (C5 (.loc lf) (.tup [.int (i:Int),.int (j:Int)])) K _ _
      rw [Dm x.f hk]
      exact ⟨rfl,rfl⟩
theorem Agt {O O':Key -> Key -> Prop} {p q:Key} (og:OkG g r c) (LA:LandAt H o r c lg b s ls g es0) (x:FS H K lf lo lp lh es gs xs) (hes:Has es F) (fl:Fg (hgt g r c) D (fun k=>inR r c k=true) O F xs U L gs) (hO:∀ p' q',O p' q' -> O' p' q' \/ (p'=p /\ q'=q)) (hp:¬ p∈U) (hF:F p=some L) (hq:inR r c q=true) (hA:Adj p q) (pile:Bt klt xs) (n1:xs.length < 1000) (n2:es.length < 2000) (n3:gs.length < 2000)
    (k:∀ K' es' gs' xs' F' y4 y6 y7,FS H K' lf lo lp lh es' gs' xs' -> Has es' F' -> Fg (hgt g r c) D (fun k=>inR r c k=true) O' F' xs' U L gs' -> Eqv ⟨F',gs',xs'⟩ (Hd (hgt g r c) p L ⟨F,gs,xs⟩ q) -> F' p=some L -> Bt klt xs' -> xs'.length <= xs.length+1 -> es'.length <= es.length+1 -> gs'.length <= gs.length+1 -> (∀ m,m≠lf -> m≠lo -> m≠lh -> K'[m]?=K[m]?) -> QS [some (.loc o),some (.loc lf),some (.loc lo),some (.loc lp),y4,some (ent L p),y6,y7] K') :
    wpSs T_11 (Af T_11 (d+4)) (.cons (.assign 6 (.umeth (.var 0) 2 (.cons (.var 4) .nil))) (.cons (.ite (.cmp .isNot (.var 6) .none) (.cons (.assign 7 (.bf .max2 (.cons (.var 6) (.cons (.sub (.var 5) (.int 0)) .nil)))) (.cons (.ite (.or (.cmp .notin (.var 4) (.var 1)) (.cmp .lt (.var 7) (.sub (.var 1) (.var 4)))) (.cons (.setitem (.var 1) (.var 4) (.var 7)) (.cons (.setitem (.var 2) (.var 4) (.sub (.var 5) (.int 1))) (.cons (.expr (.umeth (.var 3) 6 (.cons (.tup (.cons (.var 7) (.cons (.var 4) .nil))) .nil))) .nil))) .nil) .nil)) .nil) .nil))
      [some (.loc o),some (.loc lf),some (.loc lo),some (.loc lp),some (Aa q),some (ent L p),x6,x7] K QS R NoX:=by
  refine ex2 (Hc hq) fun i j zz=>Av zz fun zr2 hi hj=>?_;subst zr2
  have LK:=LA.ext x.ext
  refine ex2 (I4 og hi hj) fun w y zz=>Av zz fun hw hy hcase=>?_
  have st:wpE T_11 (Af T_11 (d+4)) (.umeth (.var 0) 2 (.cons (.var 4) .nil)) [some (.loc o),some (.loc lf),some (.loc lo),some (.loc lp),some (Aa ((i:Int),(j:Int))),some (ent L p),x6,x7] K (fun v K'=>v=y /\ K'=K) NoE:=by
    refine ex1 LK.inst fun fs zz=>Ad zz fun f0 _=>?_
    simp only [↓Cb,↓Az,↓Al,↓A5,↓Dt,↓Ai]
    rw [Fp f0 (show T_11.meth 7 2=some 25 from rfl)]
    exact Z1 hi hj LK hw hy
  refine Ak _ st ?_
  clear st LK LA
  rintro v K' ⟨rfl,rfl⟩
  rcases hcase with ⟨rfl,hn⟩ | ⟨a,rfl,_,ha⟩
  · exact k _ _ _ _ _ _ _ _ x hes (fl.skip hO hF (fun a ha=>by rw [hn] at ha;cases ha)) (Eqv.of_eq (Iv hn).symm) hF pile (Nat.le_succ _) (Nat.le_succ _) (Nat.le_succ _) fun _ _ _ _=>rfl
  · refine Abw (fun K2=>K2=K') ⟨rfl,rfl⟩ ?_
    rintro K2 rfl
    refine Ak (fun v K'=>v=.int (mx a L) /\ K'=K2) ⟨rfl,rfl⟩ ?_
    rintro v K' ⟨rfl,rfl⟩
    refine ex1 (Aci (d:=d) (i:=i) (j:=j) (a:=mx a L) (x4:=some (.loc o)) (x5:=some (.loc lo)) (x6:=some (.loc lp)) (x7:=some (ent L p)) (x8:=some (.int a)) x hes) fun t zz=>Av zz fun ht hf hc=>?_
    refine Ba hc ?_
    clear hc
    rintro v K2 ⟨rfl,rfl⟩
    refine A7 (fun h=>?_) (fun h=>?_)
    · have new:=ht h
      refine X2 x fl.dc pile n1 n2 n3 fun K3 ys x' hperm hpile keep=>k _ _ _ _ _ _ _ _ x' (hes.put _ _) ((fl.put hO hp hF hq hA ha new).perm hperm) (by rw [Vc (s:=⟨F,gs,xs⟩) ha new];exact ⟨rfl,rfl,hperm⟩) ?_ hpile ?_ (Dp _ _ _) (Dp _ _ _) keep
      · by_cases e:p=((i:Int),(j:Int))
        · have:=new L (by rw [<- e];exact hF)
          have:=Afo a L
          omega
        · rw [Co _ _ e];exact hF
      · rw [hperm.length_eq,List.length_append];exact Nat.le_refl _
    · refine ex1 (hf h) fun f zz=>Ad zz fun h1 h2=>?_
      exact k _ _ _ _ _ _ _ _ x hes (fl.skip hO hF (fun a' ha'=>by rw [ha] at ha';cases ha';exact ⟨f,h1,h2⟩)) (Eqv.of_eq (Vb (s:=⟨F,gs,xs⟩) ha h1 h2).symm) hF pile (Nat.le_succ _) (Nat.le_succ _) (Nat.le_succ _) fun _ _ _ _=>rfl
end
theorem Fl.imp {h:Key -> Option Int} {D C:Key -> Prop} {O O':Key -> Key -> Prop} {F:Key -> Option Int} {xs:List Val} {U:List Key} {m:Int} (x:Fl h D C O F xs U m) (hc:∀ p q,O p q -> O' p q):Fl h D C O' F xs U m :=
  ⟨x.ents,x.nd,x.here,x.done,x.seen,x.drain,x.snd,fun p fp hf hp q hq ho a ha=>x.near p fp hf hp q hq (fun c=>ho (hc p q c)) a ha⟩
theorem Fg.imp {h:Key -> Option Int} {D C:Key -> Prop} {O O':Key -> Key -> Prop} {F:Key -> Option Int} {xs:List Val} {U:List Key} {m:Int} {gs:List (Key × Val)} (x:Fg h D C O F xs U m gs) (hc:∀ p q,O p q -> O' p q):Fg h D C O' F xs U m gs:=⟨x.fl.imp hc,x.go⟩
inductive EInv (H:Hp) (o lf lo lp lh:Nat) (A:List Key -> (Key -> Option Int) -> List Val -> List (Key × Val) -> Prop) (p:Key) (L:Int) (bs:List Key) (a1 a2 a3 m':Nat):Nat -> Env' -> Hp -> Prop
  | mk {j:Nat} {K:Hp} (es gs:List (Key × Val)) (xs:List Val) (F:Key -> Option Int) (y4 y6 y7:Option Val) (x:FS H K lf lo lp lh es gs xs) (hes:Has es F) (fl:A (bs.take j) F xs gs) (hF:F p=some L) (pile:Bt klt xs) (b1:xs.length <= a1+j) (b2:es.length <= a2+j) (b3:gs.length <= a3+j) (gm:K[m']?=some (.list (bs.map Aa))) (hj:j <= 4) :
    EInv H o lf lo lp lh A p L bs a1 a2 a3 m' j [some (.loc o),some (.loc lf),some (.loc lo),some (.loc lp),y4,some (ent L p),y6,y7] K
inductive WInv (H:Hp) (o lf lo lp lh:Nat) (A:(Key -> Option Int) -> List Val -> List Key -> Int -> List (Key × Val) -> Prop):Nat -> Env' -> Hp -> Prop
  | mk {n:Nat} {K:Hp} (es gs:List (Key × Val)) (xs:List Val) (F:Key -> Option Int) (U:List Key) (m:Int) (y4 y5 y6 y7:Option Val) (x:FS H K lf lo lp lh es gs xs) (hes:Has es F) (fl:A F xs U m gs) (pile:Bt klt xs) (hn:xs.length+5 * U.length=n) (b1:n < 990) (b2:es.length+4 * U.length < 1800) (b3:gs.length+4 * U.length < 1800) :
    WInv H o lf lo lp lh A n [some (.loc o),some (.loc lf),some (.loc lo),some (.loc lp),y4,y5,y6,y7] K
section
variable {H K:Hp} {d:Nat} {QS:Env' -> Hp -> Prop} {R:Val -> Hp -> Prop} {o r c lg b s ls lf lo lp lh:Nat} {g:List (List Val)} {es0 es gs:List (Key × Val)} {xs:List Val} {D:Key -> Prop} {F:Key -> Option Int} {U:List Key} {L m:Int} {x4 x5 x6 x7:Option Val}
set_option maxHeartbeats 1000000 in
theorem Acj {p:Key} (og:OkG g r c) (LA:LandAt H o r c lg b s ls g es0) (x:FS H K lf lo lp lh es gs xs) (hes:Has es F) (fl:Fg (hgt g r c) D (fun k=>inR r c k=true) (fun p' _=>p'=p) F xs U L gs) (hp:¬ p∈U) (hF:F p=some L) (pile:Bt klt xs) (n1:xs.length < 990) (n2:es.length < 1900) (n3:gs.length < 1900)
    (q:∀ K' es' gs' xs' F' y4 y6 y7,FS H K' lf lo lp lh es' gs' xs' -> Has es' F' -> Fg (hgt g r c) D (fun k=>inR r c k=true) (fun _ _=>False) F' xs' U L gs' -> Eqv ⟨F',gs',xs'⟩ ((bes r c p.1 p.2).foldl (Hd (hgt g r c) p L) ⟨F,gs,xs⟩) -> Bt klt xs' -> xs'.length <= xs.length+4 -> es'.length <= es.length+4 -> gs'.length <= gs.length+4 -> QS [some (.loc o),some (.loc lf),some (.loc lo),some (.loc lp),y4,some (ent L p),y6,y7] K') :
    wpS T_11 (Af T_11 (d+4)) (.each 4 (.call 2 (.cons (.attr (.var 0) 0) (.cons (.attr (.var 0) 1) (.cons (.sub (.var 5) (.int 1)) .nil)))) (.cons (.assign 6 (.umeth (.var 0) 2 (.cons (.var 4) .nil))) (.cons (.ite (.cmp .isNot (.var 6) .none) (.cons (.assign 7 (.bf .max2 (.cons (.var 6) (.cons (.sub (.var 5) (.int 0)) .nil)))) (.cons (.ite (.or (.cmp .notin (.var 4) (.var 1)) (.cmp .lt (.var 7) (.sub (.var 1) (.var 4)))) (.cons (.setitem (.var 1) (.var 4) (.var 7)) (.cons (.setitem (.var 2) (.var 4) (.sub (.var 5) (.int 1))) (.cons (.expr (.umeth (.var 3) 6 (.cons (.tup (.cons (.var 7) (.cons (.var 4) .nil))) .nil))) .nil))) .nil) .nil)) .nil) .nil)))
      [some (.loc o),some (.loc lf),some (.loc lo),some (.loc lp),x4,some (ent L p),x6,x7] K QS R NoX:=by
  refine Ah fun G kG=>?_
  obtain ⟨p1,p2⟩:=p
  have LK:=LA.ext x.ext
  refine ex1 LK.inst fun fs zz=>Cg zz fun f0 f1 f2 _=>?_
  refine kG ?_
  apply C1
  simp only [↓Ay,↓Al,↓D2,↓Az,↓Dt,↓Ai,↓A8,↓A3,↓A5,↓As]
  rw [Dc f0 f1,Dc f0 f2]
  show Wp (Af T_11 (d+4) 2 [.int (r:Int),.int (c:Int),.tup [.int p1,.int p2]]) K _ _
  refine (Rn (d:=d+1)).then ?_
  intro v K1 zz
  refine ex1 zz fun m' zz=>Cg zz fun zr1 hm e1 gm=>?_;subst zr1
  rw [B0 (Bc gm)]
  have x1:=x.more e1
  have blen:=U6 r c p1 p2
  have lh':=x.lt
  have lf':=Bq x.f
  have lo':=Bq x.o
  obtain ⟨I,hI⟩:=Dw (EInv H o lf lo lp lh (fun ks F' xs' gs'=>Fg (hgt g r c) D (fun k=>inR r c k=true) (fun p' q'=>p'=(p1,p2) /\ ¬ q'∈ks) F' xs' U L gs' /\ Eqv ⟨F',gs',xs'⟩ (ks.foldl (Hd (hgt g r c) (p1,p2) L) ⟨F,gs,xs⟩)) (p1,p2) L (bes r c p1 p2) xs.length es.length gs.length m')
  show WpS (Ff (chk (some m') ((bes r c p1 p2).map Aa)) (N5 4) _ ((bes r c p1 p2).map Aa) _ _) _ _ _
  refine B6 I ((hI _ _ _).mpr (.mk es gs xs F x4 x6 x7 x1 hes ⟨fl.imp (fun p q h=>⟨h,fun c=>nomatch c⟩),Eqv.refl _⟩ hF pile (Nat.le_refl _) (Nat.le_refl _) (Nat.le_refl _) gm (Nat.zero_le _))) ?_ ?_ ?_
  · clear x1 x hes fl
    intro Γ K' h
    refine Ah fun G kG=>?_
    obtain ⟨es',gs',xs',F',y4,y6,y7,x',hes',⟨fl',rx⟩,_,pile',b1,b2,b3,_,hj⟩:=(hI _ _ _).mp h
    refine kG ?_
    rw [List.length_map] at fl' rx b1 b2 b3
    refine q K' es' gs' xs' F' y4 y6 y7 x' hes' (fl'.close ?_) (by rw [List.take_length] at rx;exact rx) pile' (by exact Afs b1 blen) (by exact Afs b2 blen) (by exact Afs b3 blen)
    rintro p q a ⟨rfl,hn⟩ hA ha
    rw [List.take_length] at hn
    exact hn (Mm.mpr ⟨hA,Ki ha⟩)
  · intro j Γ K' _ h
    obtain ⟨es',gs',xs',F',y4,y6,y7,_,_,_,_,_,_,_,_,gm',_⟩:=(hI _ _ _).mp h
    exact Bk gm'
  · clear x1 x hes fl hF pile q
    intro j z Γ K' hz h
    obtain ⟨es',gs',xs',F',y4,y6,y7,x',hes',⟨fl',rx⟩,hF',pile',b1,b2,b3,gm',hj⟩:=(hI _ _ _).mp h
    refine ex1 (Mn hz) fun q zz=>Ad zz fun hq hr2=>?_;refine Eq.symm hr2▸?_
    obtain ⟨hA,hin⟩:=Mm.mp (List.mem_of_getElem? hq)
    have lj:=(List.getElem?_eq_some_iff.mp hq).1
    refine ⟨_,rfl,Agt og LA x' hes' fl' (O':=fun p' q'=>p'=(p1,p2) /\ ¬ q'∈(bes r c p1 p2).take (j+1)) (p:=(p1,p2)) (q:=q) ?_ hp hF' hin hA pile' (by exact Aj2 n1 lj b1 blen hj) (by exact Ahh n2 lj b2 blen hj) (by exact Ahh n3 lj b3 blen hj) ?_⟩
    · rintro p' q' ⟨rfl,hn⟩
      by_cases e:q'=q
      · exact .inr ⟨rfl,e⟩
      · exact .inl ⟨rfl,fun h=>((Eb hq).mp h).elim hn e⟩
    · intro K2 es2 gs2 xs2 F2 z4 z6 z7 x2 hes2 fl2 rx2 hF2 pile2 c1 c2 c3 keep
      exact (hI _ _ _).mpr (.mk es2 gs2 xs2 F2 z4 z6 z7 x2 hes2 ⟨fl2,rx2.trans (by rw [Cf hq,List.foldl_append];exact Nv rx)⟩ hF2 pile2 (Nat.le_trans c1 (Nat.succ_le_succ b1)) (Nat.le_trans c2 (Nat.succ_le_succ b2)) (Nat.le_trans c3 (Nat.succ_le_succ b3)) ((keep m' (Nat.ne_of_gt (Nat.lt_of_lt_of_le lf' hm)) (Nat.ne_of_gt (Nat.lt_of_lt_of_le lo' hm)) (Nat.ne_of_gt (Nat.lt_of_lt_of_le lh' hm))).trans gm') (Nat.le_trans lj blen))
theorem Kk {m:Val} {t xs:List Val} (e:xs=m :: t) (p:Bt klt xs):∀ y∈t,klt y m=false:=fun y hy=>by
  subst e
  obtain ⟨n,hn⟩:=List.mem_iff_getElem?.mp hy
  exact p.least Ge (m:=m) rfl (n+1) y hn
set_option maxHeartbeats 1000000 in
theorem Ack (og:OkG g r c) (LA:LandAt H o r c lg b s ls g es0) (x:FS H K lf lo lp lh es gs xs) (hes:Has es F) (fl:Fg (hgt g r c) D (fun k=>inR r c k=true) (fun _ _=>False) F xs U m gs) {s0:Fst} (an:An (hgt g r c) r c s0 ⟨F,gs,xs⟩) (pile:Bt klt xs) (n1:xs.length+5 * U.length < 990) (n2:es.length+4 * U.length < 1800) (n3:gs.length+4 * U.length < 1800)
    (q:∀ K' es' gs' F' y4 y5 y6 y7,FS H K' lf lo lp lh es' gs' [] -> Has es' F' -> Lv (hgt g r c) D F' -> Go (hgt g r c) D F' [] gs' -> An (hgt g r c) r c s0 ⟨F',gs',[]⟩ -> QS [some (.loc o),some (.loc lf),some (.loc lo),some (.loc lp),y4,y5,y6,y7] K') :
    wpS T_11 (Af T_11 (d+4)) (.loop (.cmp .gt (.umeth (.var 3) 10 .nil) (.int 0)) (.cons (.assign 5 (.umeth (.var 3) 8 .nil)) (.cons (.ite (.cmp .eq (.sub (.var 1) (.sub (.var 5) (.int 1))) (.sub (.var 5) (.int 0))) (.cons (.each 4 (.call 2 (.cons (.attr (.var 0) 0) (.cons (.attr (.var 0) 1) (.cons (.sub (.var 5) (.int 1)) .nil)))) (.cons (.assign 6 (.umeth (.var 0) 2 (.cons (.var 4) .nil))) (.cons (.ite (.cmp .isNot (.var 6) .none) (.cons (.assign 7 (.bf .max2 (.cons (.var 6) (.cons (.sub (.var 5) (.int 0)) .nil)))) (.cons (.ite (.or (.cmp .notin (.var 4) (.var 1)) (.cmp .lt (.var 7) (.sub (.var 1) (.var 4)))) (.cons (.setitem (.var 1) (.var 4) (.var 7)) (.cons (.setitem (.var 2) (.var 4) (.sub (.var 5) (.int 1))) (.cons (.expr (.umeth (.var 3) 6 (.cons (.tup (.cons (.var 7) (.cons (.var 4) .nil))) .nil))) .nil))) .nil) .nil)) .nil) .nil))) .nil) .nil) .nil)))
      [some (.loc o),some (.loc lf),some (.loc lo),some (.loc lp),x4,x5,x6,x7] K QS R NoX:=by
  obtain ⟨I,hI⟩:=Dw (WInv H o lf lo lp lh (fun F' xs' U' m' gs'=>Fg (hgt g r c) D (fun k=>inR r c k=true) (fun _ _=>False) F' xs' U' m' gs' /\ An (hgt g r c) r c s0 ⟨F',gs',xs'⟩))
  refine Gl I (n:=xs.length+5 * U.length) (by show _ < 2 ^ 40;omega) ((hI _ _ _).mpr (.mk es gs xs F U m x4 x5 x6 x7 x hes ⟨fl,an⟩ pile rfl n1 n2 n3)) ?_
  clear x hes fl pile n1 n2 n3 an
  intro n Γ K' h
  obtain ⟨es',gs',xs',F',U',m',y4,y5,y6,y7,x',hes',⟨fl',an'⟩,pile',hn,b1,b2,b3⟩:=(hI _ _ _).mp h
  rw [A4]
  simp only [↓Cb,↓Az,↓Dt,↓Ai,↓A5,↓A3]
  rw [Kg x'.p (show T_11.meth 8 10=some 34 from rfl)]
  refine (Xq (d+3) x'.p x'.h).then ?_
  rintro v K2 ⟨e,rfl⟩
  rw [e,Ug]
  clear e
  refine F9 ?_ ?_
  · intro hpos
    refine Ak (fun v K2=>∃ t ys,xs'=v :: t /\ FS H K2 lf lo lp lh es' gs' ys /\ ys.Perm t /\ Bt klt ys) ?_ ?_
    · simp only [↓Cb,↓Az,↓Dt,↓Ai,↓A5,↓A3]
      rw [Kg x'.p (show T_11.meth 8 8=some 32 from rfl)]
      refine (Xp (d+2) Mi (Br x'.p x'.h (by intro c;cases c)) x'.p x'.h fl'.dc pile' (by exact Aj3 hn b1) (fun c=>by rw [c] at hpos;exact absurd hpos (by decide))).then ?_
      intro v K2 zz
      refine ex2 zz fun t ys zz=>Fc zz fun e on hy hp hpile=>?_
      exact ⟨t,ys,e,x'.only on hy,hp,hpile⟩
    clear x'
    intro v K2 zz
    refine ex2 zz fun t ys zz=>Cg zz fun zr2 x2 hperm hpile=>?_;subst zr2
    refine ex2 (fl'.ents v (.head _)) fun L zn1 zz=>Av zz fun zr2 _ zz=>ex1 zz fun f zz=>Ad zz fun hf _=>?_;obtain ⟨p1,p2⟩:=zn1;subst zr2
    have hk:=hes' (p1,p2)
    rw [hf] at hk
    have lt:(ent L (p1,p2) :: t).length=t.length+1:=rfl
    have ly:=hperm.length_eq
    have cond:wpE T_11 (Af T_11 (d+4)) (.cmp .eq (.sub (.var 1) (.sub (.var 5) (.int 1))) (.sub (.var 5) (.int 0))) [some (.loc o),some (.loc lf),some (.loc lo),some (.loc lp),y4,some (.tup [.int L,.tup [.int p1,.int p2]]),y6,y7] K2 (fun v K3=>v=.bool (decide (f=L)) /\ K3=K2) NoE:=by
      simp only [↓A4,↓A8,↓Az,↓Dt,↓Ai,↓As,↓A3,↓D3,↓Ez]
      rw [Dm x2.f hk]
      exact ⟨rfl,rfl⟩
    refine Ba cond ?_
    clear cond hk
    rintro v K3 ⟨rfl,rfl⟩
    refine F9 ?_ ?_
    · rintro rfl
      obtain ⟨hU,fp⟩:=fl'.pop (Kk rfl pile') hf
      have fu:=Va hU
      refine Acj (p:=(p1,p2)) og LA x2 hes' (fp.perm hperm) (fun c=>?_) hf hpile (by exact Aj4 b2 hn b1 lt ly) (by exact Aj5 b2) (by exact Aj6 b2 b3) ?_
      · have:=(List.mem_filter.mp c).2
        simp at this
      · intro K3 es3 gs3 xs3 F3 z4 z6 z7 x3 hes3 fl3 rx3 pile3 c1 c2 c3
        exact ⟨_,by exact Aj7 hn fu lt ly c1,(hI _ _ _).mpr (.mk es3 gs3 xs3 F3 _ _ z4 _ z6 z7 x3 hes3 ⟨fl3,(An.next an' ⟨.refl _,Kk rfl pile'⟩ fl'.dc).eqv (rx3.trans (by unfold Acf;rw [if_pos hf];exact P8 _ ⟨rfl,rfl,hperm⟩))⟩ pile3 rfl (by exact Aj8 hn fu b1 lt ly c1) (by exact Ahi b2 fu c2) (by exact Ahi b3 fu c3))⟩
    · intro hne
      exact ⟨_,by exact Aj9 hn lt ly,(hI _ _ _).mpr (.mk es' gs' ys F' U' m' y4 _ y6 y7 x2 hes' ⟨(fl'.stale (fun c=>hne (by rw [hf] at c;cases c;rfl))).perm hperm,(An.next an' ⟨.refl _,Kk rfl pile'⟩ fl'.dc).eqv (by unfold Acf;rw [if_neg (fun c=>hne (by have c:F' (p1,p2)=some L:=c;rw [hf] at c;cases c;rfl))];exact ⟨rfl,rfl,hperm⟩)⟩ hpile rfl (by exact Aka hn b1 lt ly) (by omega) (by omega))⟩
  · intro hz
    have:xs'=[]:=List.length_eq_zero_iff.mp (by exact Akb hn hz)
    subst this
    exact q K' es' gs' F' y4 y5 y6 y7 x' hes' fl'.fl.fin (fl'.go.sub fun _ c=>nomatch c) an'
end
theorem Fl.drainsAre {h:Key -> Option Int} {D D' C:Key -> Prop} {O:Key -> Key -> Prop} {F:Key -> Option Int} {xs:List Val} {U:List Key} {m:Int} (x:Fl h D C O F xs U m) (hc:∀ k,D k↔D' k):Fl h D' C O F xs U m:=by
  have:D=D':=funext fun k=>propext (hc k)
  rw [<- this];exact x
theorem Fg.drainsAre {h:Key -> Option Int} {D C:Key -> Prop} {O:Key -> Key -> Prop} {F:Key -> Option Int} {xs:List Val} {U:List Key} {m:Int} {gs:List (Key × Val)} {D':Key -> Prop} (x:Fg h D C O F xs U m gs) (hc:∀ k,D k↔D' k):Fg h D' C O F xs U m gs:=by
  have:D=D':=funext fun k=>propext (hc k)
  rw [<- this];exact x
inductive NInv (H:Hp) (o lf lo lp lh:Nat) (A:List Val -> (Key -> Option Int) -> List Val -> List (Key × Val) -> Prop) (ds:List Val) (m':Nat):Nat -> Env' -> Hp -> Prop
  | mk {n:Nat} {K:Hp} (es gs:List (Key × Val)) (xs:List Val) (F:Key -> Option Int) (y4:Option Val) (x:FS H K lf lo lp lh es gs xs) (hes:Has es F) (fl:A (ds.take n) F xs gs) (pile:Bt klt xs) (only:∀ k f,F k=some f -> Aa k∈ds.take n) (b1:xs.length <= n) (b2:es.length <= n) (b3:gs.length <= n) (gm:K[m']?=some (.list ds)) :
    NInv H o lf lo lp lh A ds m' n [some (.loc o),some (.loc lf),some (.loc lo),some (.loc lp),y4,none,none,none] K
section
variable {H K:Hp} {d:Nat} {QS:Env' -> Hp -> Prop} {R:Val -> Hp -> Prop} {o r c lg b s ls lf lo lp lh:Nat} {g:List (List Val)} {es0 es gs:List (Key × Val)} {xs:List Val} {D:Key -> Prop} {F:Key -> Option Int} {U:List Key} {L m:Int} {x4 x5 x6 x7:Option Val}
theorem Ae4 {i j:Nat} {a:Int} {w:List Val} (LA:LandAt K o r c lg b s ls g es0) (x:FS H K lf lo lp lh es gs xs) (hi:i < r) (hj:j < c) (hw:g[i]?=some w) (hy:w[j]?=some (.int a)) (dc:∀ y∈xs,DC y) (pile:Bt klt xs) (n1:xs.length < 1000) (n2:es.length < 2000) (n3:gs.length < 2000)
    (q:∀ K' ys,FS H K' lf lo lp lh (Fb es ((i:Int),(j:Int)) (.int a)) (Fb gs ((i:Int),(j:Int)) .none) ys -> ys.Perm (xs++[ent a ((i:Int),(j:Int))]) -> Bt klt ys -> (∀ m,m≠lf -> m≠lo -> m≠lh -> K'[m]?=K[m]?) -> QS [some (.loc o),some (.loc lf),some (.loc lo),some (.loc lp),some (Aa ((i:Int),(j:Int))),none,none,none] K') :
    wpSs T_11 (Af T_11 (d+4)) (.cons (.setitem (.var 1) (.var 4) (.umeth (.var 0) 2 (.cons (.var 4) .nil))) (.cons (.setitem (.var 2) (.var 4) .none) (.cons (.expr (.umeth (.var 3) 6 (.cons (.tup (.cons (.sub (.var 1) (.var 4)) (.cons (.var 4) .nil))) .nil))) .nil))) [some (.loc o),some (.loc lf),some (.loc lo),some (.loc lp),some (Aa ((i:Int),(j:Int))),none,none,none] K QS R NoX:=by
  have hlid:lid=16777216:=rfl
  refine ex1 LA.inst fun fs zz=>Ad zz fun f0 _=>?_
  have x2:=x.setF (Fb es ((i:Int),(j:Int)) (.int a))
  have x3:=x2.setO (Fb gs ((i:Int),(j:Int)) .none)
  have gt:D5 (Fb es ((i:Int),(j:Int)) (.int a)) ((i:Int),(j:Int))=some (.int a):=by rw [H0,if_pos rfl]
  simp only [↓Ag,↓Be,↓Ev,↓Bv,↓Az,↓A8,↓A3,↓El,↓Cb,↓Al,↓A5,↓Dd,↓Dt,↓Ai]
  rw [Fp f0 (show T_11.meth 7 2=some 25 from rfl)]
  refine (Z1 hi hj LA hw hy).then ?_
  rintro v K2 ⟨rfl,rfl⟩
  show Wp (Ax (.loc lf) (.tup [.int (i:Int),.int (j:Int)]) (.int a)) _ _ _
  rw [Fq x.f (by exact Afk n2 hlid)]
  show Wp (Ax (.loc lo) (.tup [.int (i:Int),.int (j:Int)]) .none) _ _ _
  rw [Fq x2.o (by exact Afk n3 hlid),Kg x3.p (show T_11.meth 8 6=some 30 from rfl)]
  show Wp (C5 (.loc lf) (.tup [.int (i:Int),.int (j:Int)])) _ _ _
  rw [Dm x3.f gt]
  refine (Uy (d+3) Mi x3.p x3.h dc (Nt a ((i:Int),(j:Int))) pile n1).then ?_
  intro w K' zz
  refine Ad zz fun _ zz=>ex1 zz fun ys zz=>Av zz fun zr2 hp hpile=>?_;subst zr2
  refine q _ ys (x3.setH ys) hp hpile fun m h1 h2 h3=>?_
  rw [List.getElem?_set_ne (Ne.symm h3),List.getElem?_set_ne (Ne.symm h2),List.getElem?_set_ne (Ne.symm h1)]
theorem X3 (og:OkG g r c) (hr:r <= 30) (hc:c <= 30) (LA:LandAt H o r c lg b s ls g es0) (hd:∀ k,Aa k∈(cells r c).filter (inD es0) -> ∃ a,hgt g r c k=some a) (x:FS H K lf lo lp lh [] [] [])
    (q:∀ K' es' gs' xs' F' y4,FS H K' lf lo lp lh es' gs' xs' -> Has es' F' -> Fg (hgt g r c) (fun k=>Aa k∈(cells r c).filter (inD es0)) (fun k=>inR r c k=true) (fun _ _=>False) F' xs' (Gy r c) 0 gs' -> Eqv ⟨F',gs',xs'⟩ (He (hgt g r c) ((cells r c).filter (inD es0))) -> Bt klt xs' -> xs'.length <= r * c -> es'.length <= r * c -> gs'.length <= r * c -> QS [some (.loc o),some (.loc lf),some (.loc lo),some (.loc lp),y4,none,none,none] K') :
    wpS T_11 (Af T_11 (d+4)) (.each 4 (.umeth (.var 0) 4 .nil) (.cons (.setitem (.var 1) (.var 4) (.umeth (.var 0) 2 (.cons (.var 4) .nil))) (.cons (.setitem (.var 2) (.var 4) .none) (.cons (.expr (.umeth (.var 3) 6 (.cons (.tup (.cons (.sub (.var 1) (.var 4)) (.cons (.var 4) .nil))) .nil))) .nil))))
      [some (.loc o),some (.loc lf),some (.loc lo),some (.loc lp),none,none,none,none] K QS R NoX:=by
  have hrc:=Nat.mul_le_mul hr hc
  have LK:=LA.ext x.ext
  refine ex1 LK.inst fun fs zz=>Ad zz fun f0 _=>?_
  apply C1
  simp only [↓Cb,↓Az,↓Dt,↓Ai,↓A5]
  rw [Fp f0 (show T_11.meth 7 4=some 27 from rfl)]
  refine (Ll (d:=d+2) hr hc LK).then ?_
  clear LK f0
  intro v K1 zz
  refine ex1 zz fun m' zz=>Cg zz fun zr1 hm' e1 gm=>?_;subst zr1
  rw [B0 (Bc gm)]
  have nd:((cells r c).filter (inD es0)).Nodup:=(Kj r c).sublist List.filter_sublist
  have hsub:∀ x∈(cells r c).filter (inD es0),∃ i j:Nat,x=Aa ((i:Int),(j:Int)) /\ i < r /\ j < c:=fun x hx=>Jg (List.mem_filter.mp hx).1
  have dl:((cells r c).filter (inD es0)).length <= r * c:=by rw [<- Gg r c];exact List.length_filter_le _ _
  generalize (cells r c).filter (inD es0)=ds at *
  have x1:=x.more e1
  have lh':=x.lt
  have lf':=Bq x.f
  have lo':=Bq x.o
  show WpS (Ff (chk (some m') ds) (N5 4) _ ds _ _) _ _ _
  obtain ⟨I,hI⟩:=Dw (NInv H o lf lo lp lh (fun vs F' xs' gs'=>Fg (hgt g r c) (fun k=>Aa k∈vs) (fun k=>inR r c k=true) (fun _ _=>False) F' xs' (Gy r c) 0 gs' /\ Eqv ⟨F',gs',xs'⟩ (He (hgt g r c) vs)) ds m')
  refine B6 I ((hI _ _ _).mpr (.mk [] [] [] (fun _=>none) none x1 (fun k=>rfl) ⟨(Fg.start (fun k hk=>Gm.mpr hk)).drainsAre (fun k=>⟨fun h=>h.elim,fun h=>nomatch h⟩),Eqv.refl _⟩ (fun i hi x y hx=>nomatch hx) (fun k f h=>nomatch h) (Nat.le_refl _) (Nat.le_refl _) (Nat.le_refl _) gm)) ?_ ?_ ?_
  · clear x x1 LA hd hsub nd gm
    intro Γ K' h
    refine Ah fun G kG=>?_
    obtain ⟨es',gs',xs',F',y4,x',hes',⟨fl',rx⟩,pile',_,b1,b2,b3,_⟩:=(hI _ _ _).mp h
    refine kG ?_
    rw [List.take_length] at fl' rx
    exact q K' es' gs' xs' F' y4 x' hes' fl' rx pile' (Nat.le_trans b1 dl) (Nat.le_trans b2 dl) (Nat.le_trans b3 dl)
  · intro j Γ K' _ h
    obtain ⟨es',gs',xs',F',y4,_,_,_,_,_,_,_,_,gm'⟩:=(hI _ _ _).mp h
    exact Bk gm'
  · clear x x1 q gm e1
    intro n z Γ K' hz h
    refine Ah fun G kG=>?_
    obtain ⟨es',gs',xs',F',y4,x',hes',⟨fl',rx⟩,pile',only,b1,b2,b3,gm'⟩:=(hI _ _ _).mp h
    have ln:=(List.getElem?_eq_some_iff.mp hz).1
    refine ex2 (hsub z (List.mem_of_getElem? hz)) fun i j zz=>Av zz fun zr2 hi hj=>?_;subst zr2
    refine ex2 (I4 og hi hj) fun w y zz=>Av zz fun hw hy hcase=>?_
    obtain ⟨a,ha⟩:=hd _ (List.mem_of_getElem? hz)
    refine kG ?_
    rcases hcase with ⟨_,hn⟩ | ⟨a',rfl,ha0,ha'⟩
    · rw [hn] at ha;cases ha
    have nF:F' ((i:Int),(j:Int))=none:=by
      cases hf:F' ((i:Int),(j:Int)) with
      | none=>rfl
      | some f=>exact absurd (only _ f hf) (X0 nd hz)
    have all:∀ k,¬ k∈Gy r c -> F' k=none:=fun k hk=>by
      cases hf:F' k with
      | none=>rfl
      | some f =>
        refine ex2 (hsub _ (List.mem_of_mem_take (only k f hf))) fun i' j' zz=>Av zz fun e' hi' hj'=>?_
        exact absurd (Gm.mpr (by rw [Dx e'];exact Nu hi' hj')) hk
    refine ⟨_,rfl,Ae4 (LA.ext x'.ext) x' hi hj hw hy fl'.dc pile' (by exact Akc ln hrc dl b1) (by exact Ahj ln hrc dl b2) (by exact Ahj ln hrc dl b3) ?_⟩
    intro K2 ys x3 hp hpile keep
    have fl2:=fl'.opened only all nF ha' ha0 (Gm.mpr (Nu hi hj))
    refine (hI _ _ _).mpr (.mk _ _ ys _ _ x3 (hes'.put _ _) ⟨(fl2.perm hp).drainsAre (fun k=>?_),by rw [Cf hz];exact Ro ha' rx hp⟩ hpile (fun k f hf=>?_) ?_ (Nat.le_trans (Dp _ _ _) (Nat.succ_le_succ b2)) (Nat.le_trans (Dp _ _ _) (Nat.succ_le_succ b3)) ((keep m' (Nat.ne_of_gt (Nat.lt_of_lt_of_le lf' hm')) (Nat.ne_of_gt (Nat.lt_of_lt_of_le lo' hm')) (Nat.ne_of_gt (Nat.lt_of_lt_of_le lh' hm'))).trans gm'))
    · rw [Eb hz]
      exact or_congr Iff.rfl ⟨fun h=>congrArg Aa h,fun h=>Dx h⟩
    · rw [Eb hz]
      by_cases e:k=((i:Int),(j:Int))
      · exact .inr (congrArg Aa e)
      · rw [Co _ _ e] at hf
        exact .inl (only k f hf)
    · rw [hp.length_eq,List.length_append];exact Nat.succ_le_succ b1
end
section
variable {H:Hp} {d:Nat} {o r c lg b s ls:Nat} {g:List (List Val)} {es0:List (Key × Val)}
theorem Nw (og:OkG g r c) (hr:r <= 30) (hc:c <= 30) (hrc:r * c <= 132) (LA:LandAt H o r c lg b s ls g es0) (hd:∀ k,Aa k∈(cells r c).filter (inD es0) -> ∃ a,hgt g r c k=some a) :
    Wp (Af T_11 (d+5) 6 [.loc o]) H (fun v H'=>∃ lf lo es gs F,v=.tup [.loc lf,.loc lo] /\ Ext H H' /\ H'[lf]?=some (.dict es) /\ H'[lo]?=some (.dict gs) /\ Has es F /\ Lv (hgt g r c) (fun k=>Aa k∈(cells r c).filter (inD es0)) F /\ Go (hgt g r c) (fun k=>Aa k∈(cells r c).filter (inD es0)) F [] gs /\ An (hgt g r c) r c (He (hgt g r c) ((cells r c).filter (inD es0))) ⟨F,gs,[]⟩) NoE:=by
  rw [Ap (g:=Aeu) rfl rfl]
  refine Ak (fun v K=>v=.loc H.length /\ K=H++[.dict []]) (by simp only [↓J7,and_self]) ?_
  rintro v K ⟨rfl,e⟩
  rw [e];clear e K
  refine Ak (fun v K=>v=.loc (H.length+1) /\ K=H++[.dict []]++[.dict []]) (by simp only [↓J7,List.length_append,List.length_singleton,and_self]) ?_
  rintro v K ⟨rfl,e⟩
  rw [e];clear e K
  refine Ak (fun v K=>v=.loc (H.length+2) /\ FS H K H.length (H.length+1) (H.length+2) (H.length+3) [] [] []) ?_ ?_
  · simp only [↓Py,↓A5]
    refine Ab7 (d+3) _ ?_
    have ll:(H++[HObj.dict []]++[HObj.dict []]).length=H.length+2:=by simp
    rw [ll]
    have e0:Ext H (H++[HObj.dict []]):=⟨_,rfl⟩
    have e1:Ext (H++[HObj.dict []]) (H++[HObj.dict []]++[HObj.dict []]):=⟨_,rfl⟩
    have e2:Ext (H++[HObj.dict []]++[HObj.dict []]) (H++[HObj.dict []]++[HObj.dict []]++[HObj.inst 8 [(4,.loc (H.length+2+1))],HObj.list []]):=⟨_,rfl⟩
    refine ⟨rfl,(e0.trans e1).trans e2,Nat.le_refl _,by exact Akd,by exact Ake,by exact Ahk,e2.get (e1.get (Aj H _)),e2.get ?_,?_,?_⟩
    · have:=Aj (H++[HObj.dict []]) (.dict [])
      rw [List.length_append] at this
      exact this
    · rw [List.getElem?_append_right (by exact Akf ll),ll,Nat.sub_self];rfl
    · rw [List.getElem?_append_right (by exact Akg ll),ll,show H.length+3 - (H.length+2)=1 by exact Akh];rfl
  rintro v K ⟨hr2,x⟩;refine Eq.symm hr2▸?_
  refine Ce (QS:=fun Γ K'=>_) _ (X3 og hr hc LA hd x (fun K' es' gs' xs' F' y4 x' hes' fl' rx pile' b1 b2 b3=>?_)) (fun Γ K h=>h)
  have kl:=H6 r c
  refine Ce (QS:=fun Γ K'=>_) _ (Ack og LA x' hes' fl' (An.start rx) pile' (by exact Aki kl hrc b1) (by exact Ahl kl hrc b2) (by exact Ahl kl hrc b3) (fun K2 es2 gs2 F2 z4 z5 z6 z7 x2 hes2 lv go an=>?_)) (fun Γ K h=>h)
  simp only [↓Ag,↓Bw,↓A9,↓Dd,↓Al,↓Az,↓As,↓Ai,↓A5]
  exact ⟨_,_,es2,gs2,F2,rfl,x2.ext,x2.f,x2.o,hes2,lv,go,an⟩
noncomputable def ov:Option Int -> Val
  | some i=>.int i
  | none=>.none
end
noncomputable def E0 (i c:Nat):List Key:=(List.range c).map fun (j:Nat)=>((i:Int),(j:Int))
theorem Vg (r c:Nat):Gy (r+1) c=Gy r c++E0 r c:=by
  unfold Gy E0;rw [List.range_succ];simp
theorem Nx (i c:Nat):E0 i (c+1)=E0 i c++[((i:Int),(c:Int))]:=by
  unfold E0;rw [List.range_succ,List.map_append];rfl
theorem O8 (i c:Nat):(E0 i c).length=c:=by unfold E0;rw [List.length_map,List.length_range]
noncomputable def Iw (g:List (List Val)) (r c:Nat) (n e:Int) (k:Key):Bool:=(hgt g r c k).isSome && decide (Int.fmod (n+(k.1 * c+k.2) * (1+Int.fmod (Int.fdiv n 12) 5)) e=0)
section
variable {T:Tab} {Φ:Funs} {Γ:Env'} {H K:Hp} {Q:Val -> Hp -> Prop} {E:Nat -> Hp -> Prop} {d:Nat} {QS:Env' -> Hp -> Prop} {R:Val -> Hp -> Prop} {ES:Nat -> Env' -> Hp -> Prop} {l b s r c:Nat} {g:List (List Val)}
theorem Acl (hS:OkS r c) (og:OkG g r c) (G:GAt H l b s g):∃ w,((List.range g.length).map fun i=>Val.loc (b+s * i))[0]?=some (.loc b) /\ H[b]?=some (.list w) /\ w.length=c:=by
  refine ex2 (Ah5 hS og G) fun w x zz=>Lp zz fun _ _ _ lw hi hr=>?_
  exact ⟨w,hi,hr,lw⟩
theorem Ah7 {w:List Val} (h1:((List.range g.length).map fun i=>Val.loc (b+s * i))[0]?=some (.loc b)) (top:H[l]?=some (.list ((List.range g.length).map fun i=>Val.loc (b+s * i)))) (h2:H[b]?=some (.list w)):Wp (C5 (.loc l) (.int 0)) H (fun v H'=>Wp (bfV .len [v]) H' Q E) E=Q (.int (w.length:Nat)) H:=by
  rw [show (0:Int)=((0:Nat):Int) from rfl,De top h1,A2 h2]
theorem Acm {i j:Nat} {w:List Val} {x:Val} (G:GAt H l b s g) (hw:g[i]?=some w) (hx:w[j]?=some x):Wp (C5 (.loc l) (.int (i:Int))) H (fun v H'=>Wp (C5 v (.int (j:Int))) H' Q E) E=Q x H:=by
  rw [De G.top (G.item (List.getElem?_eq_some_iff.mp hw).1),De (G.row i w hw) hx]
theorem Acn {i j:Nat} {n e:Int} {x0 x4:Val} (og:OkG g r c) (G:GAt H l b s g) (hi:i < r) (hj:j < c) (h0:e≠0) (sm:Eo ((i:Int) * (c:Int)+(j:Int))=true) :
    wpE T_11 (Af T_11 (d+1)) (.and (.cmp .isNot (.sub (.sub (.var 1) (.var 5)) (.var 6)) .none) (.cmp .eq (.bin .mod (.bin .add (.var 2) (.bin .mul (.var 7) (.bin .add (.int 1) (.bin .mod (.bin .fdiv (.var 2) (.int 12)) (.int 5))))) (.var 3)) (.int 0)))
      [some x0,some (.loc l),some (.int n),some (.int e),some x4,some (.int (i:Int)),some (.int (j:Int)),some (.int ((i:Int) * (c:Int)+(j:Int)))] H (fun v K=>v=.bool (Iw g r c n e ((i:Int),(j:Int))) /\ K=H) NoE:=by
  refine ex2 (I4 og hi hj) fun w' y zz=>Av zz fun hw' hy hcase=>?_
  show Wp (C5 (.loc l) (.int (i:Int))) H (fun v H'=>Wp (C5 v (.int (j:Int))) H' _ _) _
  rw [Acm G hw' hy]
  rcases hcase with ⟨rfl,hn⟩ | ⟨a,rfl,_,ha⟩
  · exact ⟨congrArg Val.bool (show false=((hgt g r c ((i:Int),(j:Int))).isSome && _) by rw [hn];rfl),rfl⟩
  · exact ⟨by decide,by decide,by rw [sm];rfl,h0,congrArg Val.bool (show decide _=((hgt g r c ((i:Int),(j:Int))).isSome && decide _) by rw [ha];rfl),rfl⟩
theorem Aco {ns:List Int} {ks:List Key} {i j:Nat} {n e:Int} {a7:Option Val} (hS:OkS r c) (og:OkG g r c) (G:GAt K l b s g) (hi:i < r) (hj:j < c) (h0:e≠0) (kl:ks.length < 1000)
    (q:∀ a7,QS [some (.script ns),some (.loc l),some (.int n),some (.int e),some (.loc K.length),some (.int (i:Int)),some (.int (j:Int)),a7] (K++[.list ((ks++[((i:Int),(j:Int))].filter (Iw g r c n e)).map Aa)])) :
    wpSs T_11 (Af T_11 (d+1)) (.cons (.assign 7 (.bin .add (.bin .mul (.var 5) (.bf .len (.cons (.sub (.var 1) (.int 0)) .nil))) (.var 6))) (.cons (.ite (.and (.cmp .isNot (.sub (.sub (.var 1) (.var 5)) (.var 6)) .none) (.cmp .eq (.bin .mod (.bin .add (.var 2) (.bin .mul (.var 7) (.bin .add (.int 1) (.bin .mod (.bin .fdiv (.var 2) (.int 12)) (.int 5))))) (.var 3)) (.int 0))) (.cons (.expr (.bm (.var 4) .append (.cons (.tup (.cons (.var 5) (.cons (.var 6) .nil))) .nil))) .nil) .nil) .nil)) [some (.script ns),some (.loc l),some (.int n),some (.int e),some (.loc K.length),some (.int (i:Int)),some (.int (j:Int)),a7] (K++[.list (ks.map Aa)]) QS R NoX:=by
  have hlid:lid=16777216:=rfl
  unfold OkS at hS
  have GK:GAt (K++[.list (ks.map Aa)]) l b s g:=G.ext ⟨_,rfl⟩
  have mul:=Nat.mul_le_mul (show i <= 29 by exact Ag8 hS hi) (show c <= 30 by exact Afr hS)
  have sm:Eo ((i:Int) * (c:Int)+(j:Int))=true:=by
    rw [show ((i:Int) * (c:Int)+(j:Int))=((i * c+j:Nat):Int) by rw [Int.natCast_add,Int.natCast_mul]]
    unfold Eo;simp;omega
  have smi:Eo (i:Int)=true:=by unfold Eo;simp;exact Ag9 hS hi
  refine Ak (fun v K'=>v=.int ((i:Int) * (c:Int)+(j:Int)) /\ K'=K++[.list (ks.map Aa)]) ?_ ?_
  · refine Ah fun G kG=>?_
    refine ex1 (Acl (by unfold OkS;exact hS) og GK) fun w zz=>Av zz fun h1 h2 lw=>?_
    refine kG ?_
    simp only [↓B9,↓E7,↓Al,↓A5,↓A8,↓Az,↓A3,↓Dt,↓Ai]
    rw [Ah7 h1 GK.top h2,lw]
    exact ⟨by rw [smi];rfl,rfl,rfl⟩
  rintro v K' ⟨rfl,rfl⟩
  refine Ba (Acn og GK hi hj h0 sm) ?_
  rintro v K' ⟨rfl,rfl⟩
  refine A7 (fun h=>?_) (fun h=>?_)
  · rw [List.filter_cons_of_pos h] at q
    refine Db (fun K'=>K'=K++[.list ((ks++[((i:Int),(j:Int))]).map Aa)]) ?_ (fun K' h=>by rw [h];exact q _)
    refine E8 rfl (Aj K _) ?_
    refine ⟨_,Aj K _,by rw [List.length_map];exact o73 kl hlid,?_⟩
    rw [O3,List.map_append];rfl
  · rw [List.filter_cons_of_neg (by rw [h];exact Bool.false_ne_true),List.filter_nil,List.append_nil] at q
    exact q _
theorem X4 (n:Int):∃ e:Int,e≠0 /\ ∀ (x0 x1:Val) (H:Hp),wpE T_11 (Af T_11 d) (.sub (.list (.cons (.int 2) (.cons (.int 3) (.cons (.int 5) (.cons (.int 9) (.cons (.int 14) .nil)))))) (.bin .mod (.bin .fdiv (.var 2) (.int 60)) (.int 5))) [some x0,some x1,some (.int n),none,none,none,none,none] H (fun v K=>v=.int e /\ Ext H K) NoE:=by
  refine Ah fun G kG=>?_
  refine ex1 (Cm (Int.fdiv n 60) 5 (by decide)) fun k zz=>Ad zz fun hk lk=>?_
  obtain ⟨e,he⟩:∃ e,([2,3,5,9,14]:List Int)[k]?=some e:=⟨_,List.getElem?_eq_getElem lk⟩
  refine kG ?_
  have h0:∀ e∈([2,3,5,9,14]:List Int),e≠0:=by decide
  refine ⟨e,h0 e (List.mem_of_getElem? he),fun x0 x1 H=>⟨by decide,by decide,?_⟩⟩
  rw [show Int.fmod (Int.fdiv n 60) 5=(k:Int) from hk]
  refine Oz (Aj H _) (by exact Akj lk) ?_ ⟨rfl,⟨_,rfl⟩⟩
  show (([2,3,5,9,14]:List Int).map Val.int)[k]?=_
  rw [List.getElem?_map,he];rfl
theorem O9 (ns:List Int) (hS:OkS r c) (og:OkG g r c) (G:GAt H l b s g) :
    Wp (Af T_11 (d+2) 14 [.script ns,.loc l]) H (fun v H'=>∃ m n e,v=.loc m /\ H.length <= m /\ Ext H H' /\ H'[m]?=some (.list (((Gy r c).filter (Iw g r c n e)).map Aa))) NoE:=by
  have hS':=hS
  unfold OkS at hS'
  rw [Ap (g:=Zf) rfl rfl]
  refine Ak (fun v K=>∃ n,v=.int n /\ K=H) ?_ ?_
  · show Wp (Af T_11 (d+1) 8 [.script ns,.int ((2:Nat):Int)]) H _ _
    rw [Ew]
    exact ⟨_,rfl,rfl⟩
  rintro v K ⟨n,rfl,rfl⟩
  refine ex1 (X4 (d:=d+1) n) fun e zz=>Ad zz fun h0 he=>?_
  refine Ak _ (he _ _ _) ?_
  clear he
  rintro v H1 ⟨rfl,e1⟩
  have G1:=G.ext e1
  refine Ak (fun v K=>v=.loc H1.length /\ K=H1++[.list (([]:List Key).map Aa)]) ⟨rfl,rfl⟩ ?_
  rintro v K ⟨rfl,rfl⟩
  have ll:=Hz og (b:=b) (s:=s) (l:=l)
  obtain ⟨I,hI⟩:=Dw (fun (i:Nat) (Γ:Env') (K:Hp)=>∃ a5 a6 a7,Γ=[some (.script ns),some (.loc l),some (.int n),some (.int e),some (.loc H1.length),a5,a6,a7] /\ K=H1++[.list (((Gy i c).filter (Iw g r c n e)).map Aa)])
  refine Ce (I r) ?_ ?_
  · refine Em (n:=r) I ?_ ⟨by exact Akk hS' ll,by exact Akl hS' ll⟩ ((hI _ _ _).mpr ⟨_,_,_,rfl,rfl⟩) ?_ (fun Γ K h=>by rw [Int.toNat_natCast] at h;exact h)
    · show Wp (bfV .len [.loc l]) _ _ _
      rw [A2 (Ext.get ⟨_,rfl⟩ G1.top),ll];exact ⟨rfl,rfl⟩
    · intro i Γ K hi h
      refine ex3 ((hI _ _ _).mp h) fun a5 a6 a7 zz=>Ad zz fun zr3 zr4=>?_;subst zr3;subst zr4
      have hi':i < r:=by exact Akm hi ll
      obtain ⟨J,hJ⟩:=Dw (fun (j:Nat) (Γ:Env') (K:Hp)=>∃ a6 a7,Γ=[some (.script ns),some (.loc l),some (.int n),some (.int e),some (.loc H1.length),some (.int (i:Int)),a6,a7] /\ K=H1++[.list (((Gy i c++E0 i j).filter (Iw g r c n e)).map Aa)])
      refine Em (n:=c) J ?_ ⟨by exact Ahm hS',by exact Ahn hS'⟩ ((hJ _ _ _).mpr ⟨_,_,rfl,by rw [show E0 i 0=[] from rfl,List.append_nil]⟩) ?_ ?_
      · refine Ah fun G kG=>?_
        refine ex1 (Acl hS og G1) fun w zz=>Av zz fun h1 h2 lw=>?_
        refine kG ?_
        have e0:Ext H1 (H1++[HObj.list (((Gy i c).filter (Iw g r c n e)).map Aa)]):=⟨_,rfl⟩
        show Wp (C5 (.loc l) (.int 0)) _ (fun v H'=>Wp (bfV .len [v]) H' _ _) _
        rw [Ah7 h1 (e0.get G1.top) (e0.get h2),lw];exact ⟨rfl,rfl⟩
      · intro j Γ K hj h
        refine ex2 ((hJ _ _ _).mp h) fun a6 a7 zz=>Ad zz fun zr2 zr3=>?_;subst zr2;subst zr3
        refine Aco hS og G1 hi' (by exact o43 hj) h0 ?_ fun a7=>(hJ _ _ _).mpr ⟨_,_,rfl,?_⟩
        · have:=List.length_filter_le (Iw g r c n e) (Gy i c++E0 i j)
          rw [List.length_append,H6,O8] at this
          have:=Nat.mul_le_mul (show i <= 29 by exact Akn hi hS' ll) (show c <= 30 by exact Afr hS')
          omega
        · rw [Nx,<- List.append_assoc,<- List.filter_append]
      · intro Γ K h
        refine ex2 ((hJ _ _ _).mp h) fun a6 a7 zz=>Ad zz fun zr2 zr3=>?_;subst zr2;subst zr3
        refine (hI _ _ _).mpr ⟨_,_,_,rfl,?_⟩
        rw [Int.toNat_natCast,<- Vg]
  intro Γ K h
  refine Ah fun G kG=>?_
  refine ex3 ((hI _ _ _).mp h) fun a5 a6 a7 zz=>Ad zz fun zr3 zr4=>?_;subst zr3;subst zr4
  refine kG ?_
  exact ⟨H1.length,n,e,rfl,e1.len,e1.trans ⟨_,rfl⟩,Aj H1 _⟩
end
theorem Acp (es:List (Key × Val)) (k:Key) (v:Val) (k':Key):inD (Fb es k v) (Aa k')=true↔(inD es (Aa k')=true \/ k'=k):=by
  show (D5 (Fb es k v) k').isSome=true↔((D5 es k').isSome=true \/ k'=k)
  rw [H0]
  by_cases e:k'=k
  · rw [if_pos e];exact ⟨fun _=>.inr e,fun _=>rfl⟩
  · rw [if_neg e];exact ⟨fun h=>.inl h,fun h=>h.resolve_right e⟩
section
variable {T:Tab} {Φ:Funs} {Γ:Env'} {H K:Hp} {Q:Val -> Hp -> Prop} {E:Nat -> Hp -> Prop} {d:Nat} {QS:Env' -> Hp -> Prop} {R:Val -> Hp -> Prop} {ES:Nat -> Env' -> Hp -> Prop} {l b s r c:Nat} {g:List (List Val)}
theorem P9 {cnd e:ME} {ks:List Key} {q:Key} {K0:Hp} {ll rr cc:Nat} {v0 v1:Option Val} (kl:ks.length < 100) (hl:ll=K0.length)
    (hc:wpE T Φ cnd [v0,v1,some (.loc ll)] (K0++[.list (ks.map Aa)]) (fun v K=>v=.bool (inR rr cc q) /\ K=K0++[.list (ks.map Aa)]) NoE)
    (he:wpE T Φ e [v0,v1,some (.loc ll)] (K0++[.list (ks.map Aa)]) (fun v K=>v=Aa q /\ K=K0++[.list (ks.map Aa)]) NoE)
    {ss:MSs} (hq:wpSs T Φ ss [v0,v1,some (.loc ll)] (K0++[.list ((ks++[q].filter (inR rr cc)).map Aa)]) QS R ES):wpSs T Φ (.cons (.ite cnd (.cons (.expr (.bm (.var 2) .append (.cons e .nil))) .nil) .nil) ss) [v0,v1,some (.loc ll)] (K0++[.list (ks.map Aa)]) QS R ES:=by
  have hlid:lid=16777216:=rfl
  subst hl
  refine Ba hc ?_
  rintro v K ⟨rfl,e1⟩
  rw [e1];clear e1 K
  refine A7 (fun h=>?_) (fun h=>?_)
  · rw [List.filter_cons_of_pos h] at hq
    refine Db (fun K=>K=K0++[.list ((ks++[q]).map Aa)]) ?_ (fun K h=>by rw [h];exact hq)
    refine E8 rfl (Aj K0 _) (Ba he ?_)
    rintro v K ⟨rfl,rfl⟩
    refine ⟨_,Aj K0 _,by rw [List.length_map];exact Ako kl hlid,?_⟩
    rw [O3,List.map_append];rfl
  · rw [List.filter_cons_of_neg (by rw [h];exact Bool.false_ne_true),List.filter_nil,List.append_nil] at hq
    skip;exact hq
theorem Jj (hS:OkS r c) (og:OkG g r c) (G:GAt H l b s g):Wp (C5 (.loc l) (.int 0)) H (fun v H'=>Wp (bfV .len [v]) H' Q E) E=Q (.int (c:Int)) H:=by
  refine ex1 (Acl hS og G) fun w zz=>Av zz fun h1 h2 lw=>?_
  rw [show (0:Int)=((0:Nat):Int) from rfl,De G.top h1,A2 h2,lw]
theorem Acq (r c:Nat) (i j:Int):bes r c i j=((([]++[(i - 1,j)].filter (inR r c))++[(i,j - 1)].filter (inR r c))++[(i,j+1)].filter (inR r c))++[(i+1,j)].filter (inR r c):=by
  unfold bes O6
  rw [List.nil_append,<- List.filter_append,<- List.filter_append,<- List.filter_append];rfl
set_option maxHeartbeats 1000000 in
theorem Pa {i j:Nat} (hS:OkS r c) (og:OkG g r c) (G:GAt H l b s g) (hi:i < r) (hj:j < c) :
    Wp (Af T_11 (d+1) 16 [.loc l,.tup [.int (i:Int),.int (j:Int)]]) H (fun v H'=>∃ m,v=.loc m /\ Ext H H' /\ H'[m]?=some (.list (((bes r c i j).filter (fun q=>(hgt g r c q).isSome)).map Aa))) NoE:=by
  have hlid:lid=16777216:=rfl
  have hS':=hS
  unfold OkS at hS'
  have GX:∀ ob,GAt (H++[ob]) l b s g:=fun ob=>G.ext ⟨_,rfl⟩
  have ll:=Hz og (b:=b) (s:=s) (l:=l)
  have l1:∀ k:Key,([k].filter (inR r c)).length <= 1:=fun k=>List.length_filter_le _ _
  rw [Ap (g:=Zh) rfl rfl]
  refine Ak (fun v K=>v=.loc H.length /\ K=H++[.list (([]:List Key).map Aa)]) ⟨rfl,rfl⟩ ?_
  rintro v K ⟨rfl,e⟩
  rw [e];clear e K
  have a1:=l1 ((i:Int) - 1,(j:Int))
  have a2:=l1 ((i:Int),(j:Int) - 1)
  have a3:=l1 ((i:Int),(j:Int)+1)
  refine P9 (q:=((i:Int) - 1,(j:Int))) (rr:=r) (cc:=c) (by decide) rfl ?_ (by exact ⟨rfl,rfl⟩) ?_
  · refine ⟨?_,rfl⟩
    exact congrArg Val.bool (decide_eq_decide.mpr ⟨fun h=>⟨by omega,by omega,by omega,by omega⟩,fun h=>by have:=h.1;omega⟩)
  refine P9 (q:=((i:Int),(j:Int) - 1)) (rr:=r) (cc:=c) (by simp only [List.length_append,List.length_nil];exact Akp a1) rfl ?_ (by exact ⟨rfl,rfl⟩) ?_
  · refine ⟨?_,rfl⟩
    exact congrArg Val.bool (decide_eq_decide.mpr ⟨fun h=>⟨by omega,by omega,by omega,by omega⟩,fun h=>by have:=h.2.2.1;omega⟩)
  refine P9 (q:=((i:Int),(j:Int)+1)) (rr:=r) (cc:=c) (by simp only [List.length_append,List.length_nil];exact Akq a1 a2) rfl ?_ (by exact ⟨rfl,rfl⟩) ?_
  · show Wp (C5 (.loc l) (.int 0)) _ (fun v H'=>Wp (bfV .len [v]) H' _ _) _
    rw [Jj hS og (GX _)]
    exact ⟨congrArg Val.bool (decide_eq_decide.mpr ⟨fun h=>⟨by omega,by omega,by omega,by omega⟩,fun h=>by have:=h.2.2.2;omega⟩),rfl⟩
  refine P9 (q:=((i:Int)+1,(j:Int))) (rr:=r) (cc:=c) (by simp only [List.length_append,List.length_nil];exact Akr a1 a2 a3) rfl ?_ (by exact ⟨rfl,rfl⟩) ?_
  · show Wp (bfV .len [.loc l]) _ _ _
    rw [A2 (GX _).top,ll]
    exact ⟨congrArg Val.bool (decide_eq_decide.mpr ⟨fun h=>⟨by omega,by omega,by omega,by omega⟩,fun h=>by have:=h.2.1;omega⟩),rfl⟩
  rw [<- Acq]
  have blen:=U6 r c i j
  have bin:∀ q∈bes r c i j,inR r c q=true:=fun q hq=>(Mm.mp hq).2
  generalize bes r c i j=bs at *
  have e0:Ext H (H++[HObj.list (bs.map Aa)]):=⟨_,rfl⟩
  refine U8 (l:=H.length) (ks:=bs) (p:=fun q=>(hgt g r c q).isSome) rfl (Aj H _) (by exact Aks blen) ⟨rfl,rfl⟩ (fun q hq=>?_) ⟨_,rfl,e0.new _,Aj _ _⟩
  refine Ah fun G kG=>?_
  refine ex2 (Hc (bin q hq)) fun i' j' zz=>Av zz fun zr2 hi' hj'=>?_;subst zr2
  refine ex2 (I4 og hi' hj') fun w y zz=>Av zz fun hw hy hcase=>?_
  refine kG ?_
  show Wp (C5 (.loc l) (.int (i':Int))) _ (fun v H'=>Wp (C5 v (.int (j':Int))) H' _ _) _
  rw [Acm (GX _) hw hy]
  rcases hcase with ⟨rfl,hn⟩ | ⟨a,rfl,_,ha⟩
  · rw [hn];exact ⟨rfl,rfl⟩
  · rw [ha];exact ⟨rfl,rfl⟩
end
end Mine.Internal.Pure
namespace Mine.Internal.Pure
open PySem
noncomputable def H8 (lo hi:Int):Val -> Bool
  | .int i=>decide (lo <= i) && decide (i <= hi)
  | _=>false
noncomputable def Fv (r c:Nat):Val -> Option Key
  | .tup [.int i,.int j]=>if inR r c (i,j)=true then some (i,j) else none
  | _=>none
noncomputable def Ae5:Val -> Prop
  | .none=>True
  | .bool _=>True
  | .int _=>True
  | .str _=>True
  | .tup _=>True
  | _=>False
noncomputable def Kn (H:Hp):Val -> Prop
  | .none=>True
  | .str _=>True
  | .tup vs=>∀ x∈vs,Ae5 x
  | .loc l=>∃ xs,H[l]?=some (.list xs)
  | _=>False
section
variable {T:Tab} {Φ:Funs} {Γ:Env'} {H:Hp} {Q:Val -> Hp -> Prop} {E:Nat -> Hp -> Prop} {d:Nat} {QS:Env' -> Hp -> Prop} {R:Val -> Hp -> Prop} {ES:Nat -> Env' -> Hp -> Prop} {r c:Nat}
theorem Ix {x:Val} {lo hi:Int} (h:Ae5 x):Wp (Af T_11 (d+1) 0 [x,.int lo,.int hi]) H Q E=Q (.bool (H8 lo hi x)) H:=by
  rw [Ap (g:=Rl) rfl rfl]
  cases x with
  | int i =>
    show brB (decide (lo <= i)) _ _=Q (.bool (decide (lo <= i) && decide (i <= hi))) H
    cases decide (lo <= i) <;> rfl
  | none=>rfl
  | bool b=>rfl
  | str s=>rfl
  | tup vs=>rfl
  | _=>cases h
theorem Vh (r c:Nat) (x y:Val):(Fv r c (.tup [x,y])).isSome=(H8 0 ((r:Int) - 1) x && H8 0 ((c:Int) - 1) y):=by
  have no:∀ v:Val,Fv r c v=none -> (Fv r c v).isSome=false:=fun v h=>by rw [h];rfl
  cases x with
  | int i =>
    cases y with
    | int j =>
      show (if inR r c (i,j)=true then some (i,j) else none).isSome=((decide (0 <= i) && decide (i <= (r:Int) - 1)) && (decide (0 <= j) && decide (j <= (c:Int) - 1)))
      by_cases h:inR r c (i,j)=true
      · rw [if_pos h]
        have h:0 <= i /\ i < r /\ 0 <= j /\ j < c:=of_decide_eq_true h
        rw [decide_eq_true (show 0 <= i by exact Akt h),decide_eq_true (show i <= (r:Int) - 1 by exact Ahg h),decide_eq_true (show 0 <= j by exact Aku h),decide_eq_true (show j <= (c:Int) - 1 by exact Ahf h)];rfl
      · rw [if_neg h]
        cases q:((decide (0 <= i) && decide (i <= (r:Int) - 1)) && (decide (0 <= j) && decide (j <= (c:Int) - 1))) with
        | false=>rfl
        | true =>
          simp only [Bool.and_eq_true,decide_eq_true_eq] at q
          exact absurd (decide_eq_true (show 0 <= i /\ i < r /\ 0 <= j /\ j < c by exact Akv q)) h
    | _=>exact (Bool.and_false _).symm
  | _=>rfl
noncomputable def Kl:Val -> Prop
  | .tup [_,_]=>False
  | _=>True
theorem Vi (v:Val):(∃ x y,v=.tup [x,y]) \/ (Kl v /\ ∀ r c,Fv r c v=none):=by
  cases v with
  | tup vs =>
    cases vs with
    | nil=>exact .inr ⟨trivial,fun _ _=>rfl⟩
    | cons x vs =>
      cases vs with
      | nil=>exact .inr ⟨trivial,fun _ _=>by cases x <;> rfl⟩
      | cons y vs =>
        cases vs with
        | nil=>exact .inl ⟨x,y,rfl⟩
        | cons z vs=>exact .inr ⟨trivial,fun _ _=>by cases x <;> first | rfl | (cases y <;> rfl)⟩
  | _=>exact .inr ⟨trivial,fun _ _=>rfl⟩
theorem Ae6 {v:Val} {i:Nat} (k:Kn H v) (np:Kl v) (hi:Γ[i]?=some (some v)) (q:Q (.bool true) H) {e:ME} :
    wpE T Φ (.or (.not (.isinst (.var i) .tuple)) (.or (.cmp .ne (.bf .len (.cons (.var i) .nil)) (.int 2)) e)) Γ H Q E /\ wpE T Φ (.or (.not (.isinst (.var i) .tuple)) (.cmp .ne (.bf .len (.cons (.var i) .nil)) (.int 2))) Γ H Q E:=by
  have len:∀ {Q:Val -> Hp -> Prop} {vs:List Val},v=.tup vs -> Q (.bool true) H -> wpE T Φ (.cmp .ne (.bf .len (.cons (.var i) .nil)) (.int 2)) Γ H Q E:=fun {Q vs} ev q=>by
    subst ev
    rw [A4,E7,wcv hi,A5,C7,A3,Mg]
    have:vs.length≠2:=fun e=>by
      match vs,e with
      | [_,_],_=>exact np
    rw [decide_eq_false (show ¬ ((vs.length:Int)=2) by exact Akw this)]
    exact q
  rw [Du,Ca,By,wvr hi]
  rw [Du,Ca,By,wvr hi]
  cases v with
  | none=>exact ⟨q,q⟩
  | str y=>exact ⟨q,q⟩
  | tup vs =>
    refine ⟨?_,len rfl q⟩
    show wpE T Φ (.or _ _) Γ H Q E
    rw [Du]
    exact len rfl q
  | loc l =>
    obtain ⟨xs,h⟩:=k
    rw [Ke l xs h,Ke l xs h]
    exact ⟨q,q⟩
  | _=>cases k
theorem Ny {v:Val} (k:Kn H v):Wp (Af T_11 (d+2) 1 [.int (r:Int),.int (c:Int),v]) H (fun w K=>w=.bool (Fv r c v).isSome /\ K=H) NoE:=by
  rw [Ap (g:=O1) rfl rfl,O1]
  rcases Vi v with ⟨x,y,rfl⟩ | ⟨np,hp⟩
  · have kx:=k x (.head _)
    have ky:=k y (.tail _ (.head _))
    rw [Vh]
    show Wp (Af T_11 (d+1) 0 [x,.int 0,.int ((r:Int) - 1)]) H _ _
    rw [Ix kx]
    refine A7 (fun e=>?_) fun e=>?_
    · rw [e]
      show Wp (Af T_11 (d+1) 0 [y,.int 0,.int ((c:Int) - 1)]) H _ _
      rw [Ix ky]
      exact ⟨rfl,rfl⟩
    · rw [e];exact ⟨rfl,rfl⟩
  · rw [hp,Ag,Bd]
    exact (Ae6 k np rfl ⟨rfl,rfl⟩ (e:=.none)).2
set_option tactic.hygienic true in
theorem Rp {r c:Nat} {v:Val} {q:Key} (h:Fv r c v=some q):v=Aa q /\ ∃ i j:Nat,q=((i:Int),(j:Int)) /\ i < r /\ j < c:=by
  rcases Vi v with ⟨x,y,rfl⟩ | ⟨_,hp⟩
  · cases x with
    | int i =>
      cases y with
      | int j =>
        have h:(if inR r c (i,j)=true then some (i,j) else none)=some q:=h
        split at h
        · rename_i e;cases h;exact ⟨rfl,Hc e⟩
        · cases h
      | _=>cases h
    | _=>cases h
  · rw [hp] at h;cases h
end
end Mine.Internal.Pure
namespace Mine.Internal.Pure
open PySem Pile
inductive Way (h:Key -> Option Int) (D:Key -> Prop) (F:Key -> Option Int) (gs:List (Key × Val)):Key -> List Key -> Prop
  | drain {k:Key} {f:Int}:D k -> D5 gs k=some .none -> F k=some f -> Way h D F gs k [k]
  | step {k p:Key} {ws:List Key} {a fp:Int}:¬ D k -> D5 gs k=some (Aa p) -> Adj p k -> h k=some a -> F p=some fp -> F k=some (mx a fp) -> ¬ k∈ws -> Way h D F gs p ws -> Way h D F gs k (k :: ws)
section
variable {h:Key -> Option Int} {D:Key -> Prop} {F:Key -> Option Int} {gs:List (Key × Val)} {k:Key} {ws:List Key}
theorem Go.way (x:Go h D F [] gs) {f:Int} (hf:F k=some f):∃ ws,Way h D F gs k ws:=by
  obtain ⟨rk,hr⟩:=x.rk
  have main:∀ (n:Nat) (k:Key) (f:Int),rk k <= n -> F k=some f -> ∃ ws,Way h D F gs k ws /\ ∀ q∈ws,rk q <= rk k:=by
    intro n
    induction n with
    | zero =>
      intro k f hn hf
      rcases hr k f hf with ⟨d,e⟩ | ⟨_,p,a,fp,_,_,_,_,_,_,l⟩
      · exact ⟨[k],.drain d e hf,fun q hq=>by rw [List.mem_singleton.mp hq];exact Nat.le_refl _⟩
      · exact absurd (Nat.lt_of_lt_of_le l hn) (Nat.not_lt_zero _)
    | succ n ih =>
      intro k f hn hf
      rcases hr k f hf with ⟨d,e⟩ | ⟨nd,p,a,fp,e,ad,_,ha,hp,hm,l⟩
      · exact ⟨[k],.drain d e hf,fun q hq=>by rw [List.mem_singleton.mp hq];exact Nat.le_refl _⟩
      · refine ex1 (ih p fp (Nat.le_of_lt_succ (Nat.lt_of_lt_of_le l hn)) hp) fun ws zz=>Ad zz fun w b=>?_
        refine ⟨k :: ws,.step nd e ad ha hp (hm▸hf) (fun c=>Nat.not_le.mpr l (b k c)) w,fun q hq=>?_⟩
        rcases List.mem_cons.mp hq with rfl | hq
        · exact Nat.le_refl _
        · exact Nat.le_trans (b q hq) (Nat.le_of_lt l)
  refine ex1 (main (rk k) k f (Nat.le_refl _) hf) fun ws zz=>Ad zz fun w _=>?_
  exact ⟨ws,w⟩
theorem Way.head (x:Way h D F gs k ws):∃ t,ws=k :: t:=by cases x <;> exact ⟨_,rfl⟩
theorem Way.level (x:Way h D F gs k ws):∃ f,F k=some f:=by
  cases x with
  | drain _ _ e=>exact ⟨_,e⟩
  | step _ _ _ _ _ e=>exact ⟨_,e⟩
theorem Way.all (x:Way h D F gs k ws):∀ q∈ws,∃ f,F q=some f:=by
  induction x with
  | drain d e f=>intro q hq;rw [List.mem_singleton.mp hq];exact ⟨_,f⟩
  | step nd e ad ha hp hk nk w ih =>
    intro q hq
    rcases List.mem_cons.mp hq with rfl | hq
    · exact ⟨_,hk⟩
    · exact ih q hq
theorem Way.nodup (x:Way h D F gs k ws):ws.Nodup:=by
  induction x with
  | drain d e f=>exact List.nodup_cons.mpr ⟨(fun c=>nomatch c),List.nodup_nil⟩
  | step nd e ad ha hp hk nk w ih=>exact List.nodup_cons.mpr ⟨nk,ih⟩
theorem Way.uniq (x:Way h D F gs k ws):∀ {vs:List Key},Way h D F gs k vs -> ws=vs:=by
  induction x with
  | drain d e f =>
    intro vs y
    cases y with
    | drain _ _ _=>rfl
    | step nd _ _ _ _ _ _ _=>exact absurd d nd
  | @step k p ws a fp nd e ad ha hp hk nk w ih =>
    intro vs y
    cases y with
    | drain d _ _=>exact absurd d nd
    | step _ e' _ _ _ _ _ w' =>
      rw [e] at e'
      have:=Dx (Option.some.inj e')
      subst this
      rw [ih w']
end
structure Fld (g:List (List Val)) (r c:Nat) (D:List Val) (F:Key -> Option Int) (gs:List (Key × Val)):Prop where
  lv:Lv (hgt g r c) (fun k=>Aa k∈D) F
  go:Go (hgt g r c) (fun k=>Aa k∈D) F [] gs
  an:An (hgt g r c) r c (He (hgt g r c) D) ⟨F,gs,[]⟩
theorem Fld.uniq {g:List (List Val)} {r c:Nat} {D:List Val} {F F':Key -> Option Int} {gs gs':List (Key × Val)} (x:Fld g r c D F gs) (y:Fld g r c D F' gs'):F=F' /\ gs=gs':=x.an.uniq y.an rfl rfl
noncomputable abbrev WayG (g:List (List Val)) (r c:Nat) (D:List Val) (F:Key -> Option Int) (gs:List (Key × Val)) (k:Key) (ws:List Key):Prop:=Way (hgt g r c) (fun k=>Aa k∈D) F gs k ws
theorem Rq (r c:Nat):(Gy r c).Nodup:=by
  have:=Kj r c
  rw [<- Iu] at this
  exact List.Pairwise.imp (fun h e=>h (congrArg Aa e)) (List.pairwise_map.mp this)
theorem X5 {r c:Nat} {ws:List Key} (nd:ws.Nodup) (hin:∀ q∈ws,q∈Gy r c):ws.length <= r * c:=by
  have p:((Gy r c).filter (fun k=>decide (k∈ws))).Perm ws:=by
    rw [List.perm_ext_iff_of_nodup ((Rq r c).sublist List.filter_sublist) nd]
    intro k
    rw [List.mem_filter,decide_eq_true_eq]
    exact ⟨fun h=>h.2,fun h=>⟨hin k h,h⟩⟩
  rw [<- p.length_eq,<- H6 r c]
  exact List.length_filter_le _ _
theorem Way.len {g:List (List Val)} {r c:Nat} {D:List Val} {F:Key -> Option Int} {gs:List (Key × Val)} {k:Key} {ws:List Key} (x:WayG g r c D F gs k ws) (l:Lv (hgt g r c) (fun k=>Aa k∈D) F):ws.length <= r * c:=by
  refine X5 x.nodup fun q hq=>?_
  obtain ⟨f,hf⟩:=x.all q hq
  refine ex1 ((l.snd q f hf).hi) fun a zz=>Ad zz fun ha _=>?_
  exact Gm.mpr (Ki ha)
section
variable {H:Hp} {Q:Val -> Hp -> Prop} {E:Nat -> Hp -> Prop}
theorem Vj {l:Nat} {xs:List Val} {v:Val} (h:H[l]?=some (.list (xs++[v]))) (q:Q v H):Wp (C5 (.loc l) (.int (-1))) H Q E:=by
  have pl:Cp (-1) (xs++[v]).length=some xs.length:=by
    unfold Cp
    rw [List.length_append,List.length_singleton,if_neg (by decide),if_pos (by exact Akx)]
    congr 1
    exact Aky
  refine Wp.of_eq ?_ q
  unfold C5;rw [Dh]
  simp only [h,pl,Option.bind_some,List.getElem?_concat_length]
end
inductive YInv (H:Hp) (o:Nat) (v:Val) (lo lw:Nat) (gs:List (Key × Val)) (W:Key -> List Key -> Prop) (full:List Key):Nat -> Env' -> Hp -> Prop
  | mk {n:Nat} {K:Hp} (pre:List Key) (k:Key) (ws:List Key) (w:W k ws) (e:pre++ws=full) (hn:n=ws.length) (ex:Ext H K) (go:K[lo]?=some (.dict gs)) (gw:K[lw]?=some (.list (pre.map Aa++[Aa k]))) :
    YInv H o v lo lw gs W full n [some (.loc o),some v,some (.loc lo),some (.loc lw)] K
section
variable {H:Hp} {d:Nat} {QS:Env' -> Hp -> Prop} {R:Val -> Hp -> Prop} {ES:Nat -> Env' -> Hp -> Prop} {o r c lg b s ls:Nat} {g:List (List Val)} {es0:List (Key × Val)} {v:Val} {D:List Val} {F:Key -> Option Int} {gs:List (Key × Val)}
theorem X6 {K:Hp} {lo lw:Nat} {k:Key} {ws:List Key} (w:WayG g r c D F gs k ws) (lv:Lv (hgt g r c) (fun k=>Aa k∈D) F) (hrc:r * c <= 132) (ne:lo≠lw) (bw:H.length <= lw) (ex:Ext H K) (go:K[lo]?=some (.dict gs)) (gw:K[lw]?=some (.list [Aa k]))
    (q:∀ K',Ext H K' -> K'[lw]?=some (.list (ws.map Aa)) -> QS [some (.loc o),some v,some (.loc lo),some (.loc lw)] K') :
    wpS T_11 (Af T_11 (d+5)) (.loop (.cmp .isNot (.sub (.var 2) (.sub (.var 3) (.neg (.int 1)))) .none) (.cons (.expr (.bm (.var 3) .append (.cons (.sub (.var 2) (.sub (.var 3) (.neg (.int 1)))) .nil))) .nil)) [some (.loc o),some v,some (.loc lo),some (.loc lw)] K QS R ES:=by
  have len:=Way.len w lv
  obtain ⟨I,hI⟩:=Dw (YInv H o v lo lw gs (WayG g r c D F gs) ws)
  refine Gl I (n:=ws.length) (by show _ < 2 ^ 40;omega) ((hI _ _ _).mpr (.mk [] k ws w rfl rfl ex go gw)) ?_
  clear ex go gw w
  intro n Γ K' h
  obtain ⟨pre,k,us,w,e,hn,ex,go,gw⟩:=(hI _ _ _).mp h
  clear h
  have look:∀ {Q:Val -> Hp -> Prop} {E:Nat -> Hp -> Prop} {u:Val},D5 gs k=some u -> Q u K' -> wpE T_11 (Af T_11 (d+5)) (.sub (.var 2) (.sub (.var 3) (.neg (.int 1)))) [some (.loc o),some v,some (.loc lo),some (.loc lw)] K' Q E:=fun {Q E u} hu qq=>by
    refine Vj gw ?_
    show Wp (C5 (.loc lo) (.tup [.int k.1,.int k.2])) K' _ _
    rw [Dm go hu];exact qq
  cases w with
  | drain dk hg hf =>
    refine look hg ?_
    refine q K' ex ?_
    rw [gw,<- e,List.map_append];rfl
  | @step _ p ts a fp nd hg ad ha hp hf nk w =>
    refine look hg ?_
    show Ea (E2 .append (.loc lw) K') _
    rw [Fn gw,Bo,Al]
    refine look hg ?_
    have lp:(pre.map Aa++[Aa k]).length < lid:=by
      have:=congrArg List.length e
      rw [List.length_append,List.length_cons] at this
      rw [List.length_append,List.length_map,List.length_singleton]
      show _ < 16777216
      exact Akz this hrc len
    refine Hu gw lp ?_
    refine ⟨ts.length,?_,(hI _ _ _).mpr (.mk (pre++[k]) p ts w (by rw [List.append_assoc];exact e) rfl (ex.set bw _) (Ao _ (Ne.symm ne) go) ?_)⟩
    · rw [hn];exact Nat.lt_succ_self _
    · rw [Bb _ gw,List.map_append];rfl
noncomputable def Qa (g:List (List Val)) (r c:Nat) (D:List Val) (H:Hp) (v:Val) (a:Val) (K:Hp):Prop :=
  ∃ F gs k ws l,Fld g r c D F gs /\ Fv r c v=some k /\ WayG g r c D F gs k ws /\ a=.loc l /\ H.length <= l /\ Ext H K /\ K[l]?=some (.list (ws.map Aa))
noncomputable def Nz (g:List (List Val)) (r c:Nat) (D:List Val) (H:Hp) (v:Val) (e:Nat) (K:Hp):Prop :=
  Ext H K /\ ((e=3 /\ Fv r c v=none) \/ (e=5 /\ ∃ F gs k,Fld g r c D F gs /\ Fv r c v=some k /\ F k=none))
theorem Acr (og:OkG g r c) (hr:r <= 30) (hc:c <= 30) (hrc:r * c <= 132) (LA:LandAt H o r c lg b s ls g es0) (hd:∀ k,Aa k∈(cells r c).filter (inD es0) -> ∃ a,hgt g r c k=some a) (kn:Kn H v) :
    Wp (Af T_11 (d+6) 7 [.loc o,v]) H (Qa g r c ((cells r c).filter (inD es0)) H v) (Nz g r c ((cells r c).filter (inD es0)) H v):=by
  refine ex1 LA.inst fun fs zz=>Cg zz fun f0 f1 f2 _=>?_
  rw [Ap (g:=Ab0) rfl rfl,Ab0]
  show wpSs T_11 (Af T_11 (d+5)) _ [some (.loc o),some v,none,none] H _ _ _
  rw [Ag,Bd,Ca,Ay,Al,wat rfl f0 f1,Al,wat rfl f0 f2,wcv (v:=v) rfl]
  refine (Ny (d:=d+3) kn).then ?_
  rintro w K ⟨rfl,e0⟩
  rw [e0]
  clear e0 K
  rw [Ac,Ac,Ek]
  refine A7 (fun e=>?_) fun e=>?_
  · obtain ⟨q,hq⟩:=Option.isSome_iff_exists.mp e
    refine Ad (Rp hq) fun zr0 zz=>ex2 zz fun i j zz=>Av zz fun zr3 hi hj=>?_;subst zr0;subst zr3
    refine Ak (fun u K=>∃ lo gs F,u=.loc lo /\ Ext H K /\ K[lo]?=some (.dict gs) /\ Fld g r c ((cells r c).filter (inD es0)) F gs) ?_ ?_
    · skip
      refine (Nw og hr hc hrc LA hd).then ?_
      intro u K zz
      refine ex5 zz fun lf lo es gs F zz=>Agx zz fun zr5 ex _ gl _ lv go an=>?_;subst zr5
      exact ⟨lo,gs,F,rfl,ex,gl,lv,go,an⟩
    · intro u K zz
      refine ex3 zz fun lo gs F zz=>Cg zz fun zr3 ex gl fd=>?_;subst zr3
      rw [Ag,Bd,A4]
      show Ea (Dy .notin (.tup [.int (i:Int),.int (j:Int)]) (.loc lo) K) _
      rw [Ed gl,Bo,Ac,Ek]
      refine A7 (fun e2=>?_) fun e2=>?_
      · -- a way
        have hF:∃ f,F ((i:Int),(j:Int))=some f:=by
          cases hf:F ((i:Int),(j:Int)) with
          | some f=>exact ⟨f,rfl⟩
          | none=>rw [fd.go.no _ hf] at e2;cases e2
        obtain ⟨f,hf⟩:=hF
        obtain ⟨ws,w⟩:=fd.go.way hf
        refine Ak (fun u K'=>u=.loc K.length /\ K'=K++[.list [Aa ((i:Int),(j:Int))]]) ⟨rfl,rfl⟩ ?_
        rintro u K' ⟨rfl,rfl⟩
        have lo':=Bq gl
        refine Ce (QS:=_) _ (X6 (H:=H) (d:=d) w fd.lv hrc (Nat.ne_of_lt lo') ex.len (ex.new _) ((Ext.new (Ext.refl K) _).get gl) (Aj K _) (fun K2 ex2 g2=>?_)) (fun Γ K h=>h)
        exact ⟨F,gs,_,ws,K.length,fd,hq,w,rfl,ex.len,ex2,g2⟩
      · skip
        refine ⟨rfl,ex,.inr ⟨rfl,F,gs,_,fd,hq,?_⟩⟩
        cases hf:F ((i:Int),(j:Int)) with
        | none=>rfl
        | some f =>
          obtain ⟨rk,hr⟩:=fd.go.rk
          rcases hr _ f hf with ⟨_,w⟩ | ⟨_,p,a,fp,w,_⟩ <;> rw [w] at e2 <;> cases e2
  · skip
    exact ⟨rfl,Ext.refl _,.inl ⟨rfl,Option.not_isSome_iff_eq_none.mp (by rw [e];exact Bool.false_ne_true)⟩⟩
end
section
variable {T:Tab} {Φ:Funs} {Γ:Env'} {H K:Hp} {Q:Val -> Hp -> Prop} {E:Nat -> Hp -> Prop} {d:Nat} {QS:Env' -> Hp -> Prop} {R:Val -> Hp -> Prop} {ES:Nat -> Env' -> Hp -> Prop} {l b s r c:Nat} {g:List (List Val)} {F:Key -> Option Int}
theorem Mo {α:Type} {f:Val -> Option PyData} {v:α -> Val} {gd:α -> PyData} (ks:List α) (h:∀ k∈ks,f (v k)=some (gd k)):Jo f (ks.map v)=some (ks.map gd):=by
  induction ks with
  | nil=>rfl
  | cons k ks ih =>
    show (match f (v k),Jo f (ks.map v) with | some d,some ds=>some (d :: ds) | _,_=>none)=_
    rw [h k (.head _),ih (fun k hk=>h k (.tail _ hk))];rfl
theorem Lst.non_ {ks:List Key} {o:Option Int} {q:Key} (L:Lst F ks o) (h:F q=none):Lst F (ks++[q]) o:=by
  refine ⟨fun e k hk=>?_,fun l e=>?_⟩
  · rcases List.mem_append.mp hk with hk | hk
    · exact L.non e k hk
    · cases List.mem_singleton.mp hk;exact h
  · obtain ⟨⟨k,hk,hf⟩,hall⟩:=L.one l e
    refine ⟨⟨k,List.mem_append.mpr (.inl hk),hf⟩,fun k' hk' f hf'=>?_⟩
    rcases List.mem_append.mp hk' with hk' | hk'
    · exact hall k' hk' f hf'
    · cases List.mem_singleton.mp hk';rw [h] at hf';cases hf'
theorem Lst.less {ks:List Key} {o:Option Int} {q:Key} {f:Int} (L:Lst F ks o) (h:F q=some f) (hl:∀ l,o=some l -> f < l):Lst F (ks++[q]) (some f):=by
  refine ⟨(fun e=>nomatch e),fun l e=>?_⟩
  cases e
  refine ⟨⟨q,List.mem_append.mpr (.inr (List.mem_singleton.mpr rfl)),h⟩,fun k' hk' f' hf'=>?_⟩
  rcases List.mem_append.mp hk' with hk' | hk'
  · cases o with
    | none=>rw [L.non rfl k' hk'] at hf';cases hf'
    | some l =>
      have:=(L.one l rfl).2 k' hk' f' hf'
      have:=hl l rfl
      omega
  · cases List.mem_singleton.mp hk';rw [h] at hf';cases hf';exact Int.le_refl _
theorem Lst.stay {ks:List Key} {l f:Int} {q:Key} (L:Lst F ks (some l)) (h:F q=some f) (hl:l <= f):Lst F (ks++[q]) (some l):=by
  refine ⟨(fun e=>nomatch e),fun l' e=>?_⟩
  cases e
  obtain ⟨⟨k,hk,hf⟩,hall⟩:=L.one l rfl
  refine ⟨⟨k,List.mem_append.mpr (.inl hk),hf⟩,fun k' hk' f' hf'=>?_⟩
  rcases List.mem_append.mp hk' with hk' | hk'
  · exact hall k' hk' f' hf'
  · cases List.mem_singleton.mp hk';rw [h] at hf';cases hf';exact hl
theorem Qb {i j:Nat} {q:Key}:q∈(bes r c i j).filter (fun q=>(hgt g r c q).isSome)↔(Adj ((i:Int),(j:Int)) q /\ hgt g r c q≠none):=by
  rw [List.mem_filter,Mm]
  constructor
  · rintro ⟨⟨h1,_⟩,h2⟩
    exact ⟨h1,fun c=>by rw [c] at h2;cases h2⟩
  · rintro ⟨h1,h2⟩
    cases e:hgt g r c q with
    | none=>exact absurd e h2
    | some y=>exact ⟨⟨h1,Ki e⟩,rfl⟩
theorem Km {l:Nat} {es:List (Key × Val)} {i j:Int} (h:H[l]?=some (.dict es)):Dy .isin (.tup [.int i,.int j]) (.loc l) H=some ((D5 es (i,j)).isSome):=by
  show inV (.tup [.int i,.int j]) (.loc l) H=_
  unfold inV
  simp only [h];rfl
theorem Qc {es:List (Key × Val)} {k:Key} (hes:Has es F):(D5 es k).isSome=(F k).isSome:=by
  rw [hes k];cases F k <;> rfl
theorem Ae7 {ks:List Key} {ol:Option Int} {le:Nat} {es:List (Key × Val)} {k:Key} {x0 x1:Val} (ge:H[le]?=some (.dict es)) (hes:Has es F) (L:Lst F ks ol)
    (q:∀ ol',Lst F (ks++[k]) ol' -> QS [some x0,some x1,some (.loc le),some (ov ol'),some (Aa k)] H) :
    wpSs T Φ (.cons (.ite (.and (.cmp .isin (.var 4) (.var 2)) (.or (.cmp .is (.var 3) .none) (.cmp .lt (.sub (.var 2) (.var 4)) (.var 3)))) (.cons (.assign 3 (.sub (.var 2) (.var 4))) .nil) .nil) .nil) [some x0,some x1,some (.loc le),some (ov ol),some (Aa k)] H QS R ES:=by
  have look:∀ {Q:Val -> Hp -> Prop} {E:Nat -> Hp -> Prop} {f:Int} {a:Val},F k=some f -> Q (.int f) H -> wpE T Φ (.sub (.var 2) (.var 4)) [some x0,some x1,some (.loc le),some a,some (Aa k)] H Q E:=fun {Q E f a} hf qq=>by
    show Wp (C5 (.loc le) (.tup [.int k.1,.int k.2])) H _ _
    rw [Dm ge (show D5 es (k.1,k.2)=some (.int f) by rw [hes];skip;rw [hf];rfl)];exact qq
  rw [Ag,Bd,Fs,A4]
  show Ea (Dy .isin (.tup [.int k.1,.int k.2]) (.loc le) H) _
  rw [Km ge,Bo,Ac,show (D5 es (k.1,k.2)).isSome=(F k).isSome from Qc hes]
  cases hf:F k with
  | none=>exact q ol (L.non_ hf)
  | some f =>
    rw [show (some f:Option Int).isSome=true from rfl,C0,Du,A4]
    cases ol with
    | none =>
      show wpSs T Φ _ _ H _ _ _
      rw [Ag]
      exact look hf (q (some f) (L.less hf (fun l e=>nomatch e)))
    | some l0 =>
      rw [wvr (v:=.int l0) rfl,El,Cl,Ac,Bp]
      refine look hf ?_
      refine F9 (fun h=>?_) fun h=>?_
      · rw [Ag]
        exact look hf (q (some f) (L.less hf (fun l e=>by cases e;exact h)))
      · exact q (some l0) (L.stay hf (by exact Afj h))
theorem Vk {i j le:Nat} {es:List (Key × Val)} (hS:OkS r c) (og:OkG g r c) (G:GAt H l b s g) (hi:i < r) (hj:j < c) (ge:H[le]?=some (.dict es)) (hes:Has es F) :
    Wp (Af T_11 (d+2) 17 [.loc l,.tup [.int (i:Int),.int (j:Int)],.loc le]) H (fun v H'=>∃ ol,v=ov ol /\ Ext H H' /\ Lst F ((bes r c i j).filter (fun q=>(hgt g r c q).isSome)) ol) NoE:=by
  rw [Ap (g:=Zi) rfl rfl]
  refine Ak (fun v K=>v=.none /\ H=K) ⟨rfl,rfl⟩ ?_
  rintro v K ⟨rfl,rfl⟩
  refine Ce (QS:=_) (fun Γ K=>∃ ol a,Γ=[some (.loc l),some (.tup [.int (i:Int),.int (j:Int)]),some (.loc le),some (ov ol),a] /\ Ext H K /\ Lst F ((bes r c i j).filter (fun q=>(hgt g r c q).isSome)) ol) ?_ ?_
  · apply C1
    refine (Pa (d:=d) hS og G hi hj).then ?_
    intro v K zz
    refine ex1 zz fun m zz=>Av zz fun zr1 ex gm=>?_;subst zr1
    rw [B0 (Bc gm)]
    generalize hks:(bes r c i j).filter (fun q=>(hgt g r c q).isSome)=ks at *
    obtain ⟨I,hI⟩:=Dw (fun (n:Nat) (Γ:Env') (K':Hp)=>K=K' /\ ∃ ol a,Γ=[some (.loc l),some (.tup [.int (i:Int),.int (j:Int)]),some (.loc le),some (ov ol),a] /\ Lst F (ks.take n) ol)
    show WpS (Ff (chk (some m) (ks.map Aa)) (N5 4) _ (ks.map Aa) _ _) _ _ _
    refine B6 I ((hI _ _ _).mpr ⟨rfl,none,_,rfl,⟨fun _ k hk=>(nomatch hk),fun l e=>nomatch e⟩⟩) ?_ ?_ ?_
    · intro Γ K' h
      refine Ad ((hI _ _ _).mp h) fun zr0 zz=>ex2 zz fun ol a zz=>Ad zz fun zr3 L=>?_;subst zr0;subst zr3
      rw [List.length_map,List.take_length] at L
      exact ⟨ol,a,rfl,ex,L⟩
    · intro n Γ K' _ h
      obtain ⟨rfl,_⟩:=(hI _ _ _).mp h
      exact Bk gm
    · intro n z Γ K' hz h
      refine Ad ((hI _ _ _).mp h) fun zr0 zz=>ex2 zz fun ol a zz=>Ad zz fun zr3 L=>?_;subst zr0;subst zr3
      refine ex1 (Mn hz) fun q zz=>Ad zz fun hq hr2=>?_;refine Eq.symm hr2▸?_
      refine ⟨_,rfl,Ae7 (ex.get ge) hes L fun ol' L'=>(hI _ _ _).mpr ⟨rfl,ol',_,rfl,?_⟩⟩
      rw [Cf hq];exact L'
  · intro Γ K zz
    refine ex2 zz fun ol a zz=>Av zz fun zr2 ex L=>?_;subst zr2
    exact ⟨ol,rfl,ex,L⟩
end
theorem Z2 {α:Type} {f g:α -> Nat} (le:∀ q,f q <= g q):∀ (l:List α),(l.map f).sum <= (l.map g).sum
  | []=>Nat.le_refl _
  | x :: l=>by rw [List.map_cons,List.map_cons,List.sum_cons,List.sum_cons];exact Nat.add_le_add (le x) (Z2 le l)
theorem Vl {α:Type} {f g:α -> Nat} (le:∀ q,f q <= g q) {k:α} (lt:f k < g k):∀ (l:List α),k∈l -> (l.map f).sum < (l.map g).sum
  | x :: l,h=>by
    rw [List.map_cons,List.map_cons,List.sum_cons,List.sum_cons]
    rcases List.mem_cons.mp h with rfl | h
    · exact Nat.add_lt_add_of_lt_of_le lt (Z2 le l)
    · exact Nat.add_lt_add_of_le_of_lt (le x) (Vl le lt l h)
theorem H9 {α:Type} {f:α -> Nat} {n:Nat} (h:∀ q,f q <= n):∀ (l:List α),(l.map f).sum <= l.length * n
  | []=>Nat.zero_le _
  | x :: l=>by
    rw [List.map_cons,List.sum_cons,List.length_cons,Nat.succ_mul,Nat.add_comm]
    exact Nat.add_le_add (H9 h l) (h x)
noncomputable def below (h:Key -> Option Int) (f:Int) (q:Key):Nat:=match h q with
  | some a=>if a < f then 1 else 0
  | none=>0
theorem Qd (h:Key -> Option Int) (f:Int) (q:Key):below h f q <= 1:=by
  unfold below
  cases h q with
  | none=>exact Nat.zero_le _
  | some a =>
    dsimp only
    by_cases c:a < f
    · rw [if_pos c];exact Nat.le_refl _
    · rw [if_neg c];exact Nat.zero_le _
theorem Rr {h:Key -> Option Int} {f f':Int} (l:f <= f') (q:Key):below h f q <= below h f' q:=by
  unfold below
  cases h q with
  | none=>exact Nat.le_refl _
  | some a =>
    dsimp only
    by_cases c:a < f
    · rw [if_pos c,if_pos (by exact Ak0 c l)];exact Nat.le_refl _
    · rw [if_neg c];exact Nat.zero_le _
noncomputable def rnk (h:Key -> Option Int) (ks:List Key):Option Int -> Nat
  | some f=>(ks.map (below h f)).sum
  | none=>ks.length+1
theorem Ae8 (h:Key -> Option Int) (ks:List Key) (o:Option Int):rnk h ks o <= ks.length+1:=by
  cases o with
  | none=>exact Nat.le_refl _
  | some f =>
    have:=H9 (Qd h f) ks
    show (ks.map (below h f)).sum <= _
    exact Ak1 this
theorem Ae9 {h:Key -> Option Int} {ks:List Key} {v:Int} {o:Option Int} (new:∀ f,o=some f -> v < f) (is:∃ q∈ks,h q=some v):rnk h ks (some v) < rnk h ks o:=by
  cases o with
  | none =>
    have:=H9 (Qd h v) ks
    show (ks.map (below h v)).sum < ks.length+1
    exact Ak2 this
  | some f =>
    refine ex1 is fun q zz=>Ad zz fun hq e=>?_
    have l:=new f rfl
    refine Vl (Rr (Int.le_of_lt l)) (k:=q) ?_ ks hq
    unfold below
    rw [e]
    dsimp only
    rw [if_neg (Int.lt_irrefl v),if_pos l];exact Nat.zero_lt_one
noncomputable def mu (h:Key -> Option Int) (ks:List Key) (F:Key -> Option Int):Nat:=(ks.map fun k=>rnk h ks (F k)).sum
theorem Agu (h:Key -> Option Int) (ks:List Key) (F:Key -> Option Int):mu h ks F <= ks.length * (ks.length+1):=H9 (fun k=>Ae8 h ks (F k)) ks
theorem Afa {h:Key -> Option Int} {ks:List Key} {F:Key -> Option Int} {k:Key} {v:Int} (hk:k∈ks) (new:∀ f,F k=some f -> v < f) (is:∃ q∈ks,h q=some v):mu h ks (upd F k v) < mu h ks F:=by
  have lt:=Ae9 (ks:=ks) new is
  refine Vl (fun q=>?_) (k:=k) ?_ ks hk
  · by_cases e:q=k
    · rw [e,Bs];exact Nat.le_of_lt lt
    · rw [Co _ _ e];exact Nat.le_refl _
  · rw [Bs];exact lt
theorem Rc.isH {h:Key -> Option Int} {D:Key -> Prop} {k:Key} {f:Int} (x:Rc h D k f):∃ q,h q=some f:=by
  induction x with
  | drain d e=>exact ⟨_,e⟩
  | @step p q f a r n e ih =>
    unfold mx
    by_cases c:f > a
    · rw [if_pos c];exact ih
    · rw [if_neg c];exact ⟨_,e⟩
noncomputable def N0 (h F:Key -> Option Int) (k:Key):Prop:=∀ a,h k=some a -> ∀ q fq,Adj k q -> F q=some fq -> ∃ f,F k=some f /\ f <= mx a fq
structure Lt (h:Key -> Option Int) (D:Key -> Prop) (F:Key -> Option Int):Prop where
  snd:∀ k f,F k=some f -> Rc h D k f
  drain:∀ k,D k -> F k=h k
theorem Lt.fin {h:Key -> Option Int} {D:Key -> Prop} {F:Key -> Option Int} (x:Lt h D F) (cl:∀ k a,h k=some a -> N0 h F k):Lv h D F:=by
  refine ⟨x.snd,fun k f r=>?_⟩
  induction r with
  | drain d e=>exact ⟨_,(x.drain _ d).trans e,Int.le_refl _⟩
  | @step p q f a r n e ih =>
    refine ex1 ih fun f' zz=>Ad zz fun h1 h2=>?_
    refine ex1 (cl q a e a e p f' n.symm h1) fun fq zz=>Ad zz fun h3 h4=>?_
    exact ⟨fq,h3,Int.le_trans h4 (O5 a h2)⟩
theorem Lt.put {h:Key -> Option Int} {D:Key -> Prop} {F:Key -> Option Int} {k q:Key} {a fq:Int} (x:Lt h D F) (e:h k=some a) (n:Adj k q) (hq:F q=some fq) (new:∀ f,F k=some f -> mx a fq < f):Lt h D (upd F k (mx a fq)):=by
  refine ⟨fun k' f hf=>?_,fun k' d=>?_⟩
  · by_cases c:k'=k
    · rw [c,Bs] at hf
      cases hf
      exact c▸.step (x.snd q fq hq) n.symm e
    · rw [Co _ _ c] at hf;exact x.snd k' f hf
  · by_cases c:k'=k
    · subst c
      have:=new a ((x.drain _ d).trans e)
      have:=Ae2 a fq
      omega
    · rw [Co _ _ c];exact x.drain k' d
theorem Lst.closed {h F:Key -> Option Int} {k:Key} {a:Int} {ks:List Key} {o:Option Int} (e:h k=some a) (hk:∀ q,q∈ks↔(Adj k q /\ h q≠none)) (hs:∀ q f,F q=some f -> h q≠none) (L:Lst F ks o) (ok:∀ l,o=some l -> ∃ f,F k=some f /\ f <= mx a l):N0 h F k:=by
  intro a' ha' q fq n hq
  rw [e] at ha';cases ha'
  have mem:q∈ks:=(hk q).mpr ⟨n,hs q fq hq⟩
  cases o with
  | none=>rw [L.non rfl q mem] at hq;cases hq
  | some l =>
    refine ex1 (ok l rfl) fun f zz=>Ad zz fun h1 h2=>?_
    exact ⟨f,h1,Int.le_trans h2 (O5 a ((L.one l rfl).2 q mem fq hq))⟩
theorem Lt.high {h:Key -> Option Int} {D:Key -> Prop} {F:Key -> Option Int} (x:Lt h D F) (q:Key) (f:Int) (hf:F q=some f):h q≠none:=fun c=>by
  refine ex1 ((x.snd q f hf).hi) fun a zz=>Ad zz fun ha _=>?_
  rw [c] at ha;cases ha
theorem Acs (a b:Int):mx a b=mx b a:=by
  unfold mx
  by_cases h:b > a
  · rw [if_pos h,if_neg (by exact Ak3 h)]
  · rw [if_neg h]
    by_cases h2:a > b
    · rw [if_pos h2]
    · rw [if_neg h2];exact Ak4 h h2
noncomputable abbrev muG (g:List (List Val)) (r c:Nat) (F:Key -> Option Int):Nat:=mu (hgt g r c) (Gy r c) F
section
variable {T:Tab} {Φ:Funs} {Γ:Env'} {H K:Hp} {Q:Val -> Hp -> Prop} {E:Nat -> Hp -> Prop} {d:Nat} {QS:Env' -> Hp -> Prop} {R:Val -> Hp -> Prop} {ES:Nat -> Env' -> Hp -> Prop} {l b s r c le:Nat} {g:List (List Val)} {F:Key -> Option Int} {es:List (Key × Val)} {D:Key -> Prop}
theorem Ah8 {i j:Nat} {w:List Val} {y:Val} (h0:Γ[0]?=some (some (.loc l))) (h5:Γ[5]?=some (some (.int (i:Int)))) (h6:Γ[6]?=some (some (.int (j:Int)))) (G:GAt H l b s g) (hw:g[i]?=some w) (hy:w[j]?=some y) (q:Q y H):wpE T Φ (.sub (.sub (.var 0) (.var 5)) (.var 6)) Γ H Q E:=by
  rw [A8,A8,wvr h0,wvr h5,De G.top (G.item (List.getElem?_eq_some_iff.mp hw).1),wvr h6,De (G.row i w hw) hy]
  exact q
theorem X7 {i j:Nat} (h5:Γ[5]?=some (some (.int (i:Int)))) (h6:Γ[6]?=some (some (.int (j:Int)))) (q:Q (.tup [.int (i:Int),.int (j:Int)]) H):wpE T Φ (.tup (.cons (.var 5) (.cons (.var 6) .nil))) Γ H Q E:=by
  rw [Dd,wcv h5,wcv h6]
  exact q
theorem Act {i j:Nat} {m:Bool} {x1:Val} {x3 x7:Option Val} (hS:OkS r c) (og:OkG g r c) (G:GAt H l b s g) (hi:i < r) (hj:j < c) (bl:H.length <= le) (ex:Ext H K) (ge:K[le]?=some (.dict es)) (hes:Has es F) (lt:Lt (hgt g r c) D F) (hn:es.length < 5000)
    (q:∀ K' es' F' m' x7',Ext H K' -> K'[le]?=some (.dict es') -> Has es' F' -> Lt (hgt g r c) D F' -> es'.length+muG g r c F' <= es.length+muG g r c F -> ((F'=F /\ m'=m /\ N0 (hgt g r c) F ((i:Int),(j:Int))) \/ (m'=true /\ muG g r c F' < muG g r c F)) -> QS [some (.loc l),some x1,some (.loc le),x3,some (.bool m'),some (.int (i:Int)),some (.int (j:Int)),x7'] K') :
    wpSs T_11 (Af T_11 (d+2)) (.cons (.assign 7 (.call 17 (.cons (.var 0) (.cons (.tup (.cons (.var 5) (.cons (.var 6) .nil))) (.cons (.var 2) .nil))))) (.cons (.ite (.and (.cmp .isNot (.sub (.sub (.var 0) (.var 5)) (.var 6)) .none) (.cmp .isNot (.var 7) .none)) (.cons (.assign 7 (.bf .max2 (.cons (.var 7) (.cons (.sub (.sub (.var 0) (.var 5)) (.var 6)) .nil)))) (.cons (.ite (.or (.cmp .notin (.tup (.cons (.var 5) (.cons (.var 6) .nil))) (.var 2)) (.cmp .lt (.var 7) (.sub (.var 2) (.tup (.cons (.var 5) (.cons (.var 6) .nil)))))) (.cons (.setitem (.var 2) (.tup (.cons (.var 5) (.cons (.var 6) .nil))) (.var 7)) (.cons (.assign 4 (.bool true)) .nil)) .nil) .nil)) .nil) .nil))
      [some (.loc l),some x1,some (.loc le),x3,some (.bool m),some (.int (i:Int)),some (.int (j:Int)),x7] K QS R ES:=by
  obtain ⟨w,y,hw,hy,hcase⟩:=I4 og hi hj
  refine Ak (fun v K'=>∃ ol,v=ov ol /\ Ext K K' /\ Lst F ((bes r c i j).filter (fun q=>(hgt g r c q).isSome)) ol) ?_ ?_
  · rw [Ay,wcv (v:=.loc l) rfl,Al,Dd,wcv (v:=.int (i:Int)) rfl,wcv (v:=.int (j:Int)) rfl,A5,wcv (v:=.loc le) rfl]
    exact Vk (d:=d) hS og (G.ext ex) hi hj ge hes
  intro v K1 zz
  obtain ⟨ol,rfl,e1,L⟩:=zz
  have ex1:=ex.trans e1
  have G1:=G.ext ex1
  have ge1:=e1.get ge
  clear ge ex
  have same:N0 (hgt g r c) F ((i:Int),(j:Int)) -> ∀ x7',QS [some (.loc l),some x1,some (.loc le),x3,some (.bool m),some (.int (i:Int)),some (.int (j:Int)),x7'] K1:=fun cl x7'=>q K1 es F m x7' ex1 ge1 hes lt (Nat.le_refl _) (.inl ⟨rfl,rfl,cl⟩)
  rw [Ag,Bd,Fs,A4]
  refine Ah8 rfl rfl rfl G1 hw hy ?_
  rcases hcase with ⟨rfl,hn0⟩ | ⟨a,rfl,_,ha⟩
  · exact same (fun a ha=>by rw [hn0] at ha;cases ha) _
  · rw [El,C2,Ac,C0,A4,wvr (v:=ov ol) rfl,El]
    have hk:∀ q,q∈(bes r c i j).filter (fun q=>(hgt g r c q).isSome)↔(Adj ((i:Int),(j:Int)) q /\ hgt g r c q≠none):=fun q=>Qb
    cases ol with
    | none=>exact same (L.closed ha hk lt.high (fun l e=>nomatch e)) _
    | some l0 =>
      refine Ak (fun v K'=>v=.int (mx a l0) /\ K1=K') ?_ ?_
      · rw [E7,wcv (v:=.int l0) rfl]
        refine Ah8 rfl rfl rfl G1 hw hy ?_
        exact ⟨congrArg Val.int (Acs l0 a),rfl⟩
      rintro v K' ⟨rfl,rfl⟩
      have hes0:=hes ((i:Int),(j:Int))
      have cond:∃ t:Bool,(t=true -> ∀ f,F ((i:Int),(j:Int))=some f -> mx a l0 < f) /\ (t=false -> ∃ f,F ((i:Int),(j:Int))=some f /\ f <= mx a l0) /\
          wpE T_11 (Af T_11 (d+2)) (.or (.cmp .notin (.tup (.cons (.var 5) (.cons (.var 6) .nil))) (.var 2)) (.cmp .lt (.var 7) (.sub (.var 2) (.tup (.cons (.var 5) (.cons (.var 6) .nil)))))) [some (.loc l),some x1,some (.loc le),x3,some (.bool m),some (.int (i:Int)),some (.int (j:Int)),some (.int (mx a l0))] K1 (fun v K'=>v=.bool t /\ K1=K') NoE:=by
        cases hf:F ((i:Int),(j:Int)) with
        | none =>
          rw [hf] at hes0
          refine ⟨true,(fun _ f h=>nomatch h),(fun h=>nomatch h),?_⟩
          rw [Du,A4]
          refine X7 rfl rfl ?_
          rw [wvr (v:=.loc le) rfl,Ed ge1,hes0]
          exact ⟨rfl,rfl⟩
        | some f =>
          rw [hf] at hes0
          refine ⟨decide (mx a l0 < f),fun h f' h'=>?_,fun h=>⟨f,rfl,?_⟩,?_⟩
          · cases h';exact of_decide_eq_true h
          · have:=of_decide_eq_false h;exact Afj this
          · rw [Du,A4]
            refine X7 rfl rfl ?_
            rw [wvr (v:=.loc le) rfl,Ed ge1,hes0,Bo,Ac]
            rw [show (!(Option.map Val.int (some f)).isSome)=false from rfl,Bp,A4,wvr (v:=.int (mx a l0)) rfl,A8,wvr (v:=.loc le) rfl]
            refine X7 rfl rfl ?_
            rw [Dm ge1 hes0]
            exact ⟨rfl,rfl⟩
      obtain ⟨t,ht,hf,hc⟩:=cond
      refine Ba hc ?_
      clear hc
      rintro v K' ⟨rfl,rfl⟩
      refine A7 (fun h=>?_) (fun h=>?_)
      · have new:=ht h
        obtain ⟨q0,hq0,hl0⟩:=(L.one l0 rfl).1
        have adj:=((Qb (g:=g)).mp hq0).1
        have lt':=lt.put ha adj hl0 new
        have is:∃ q∈Gy r c,hgt g r c q=some (mx a l0):=by
          obtain ⟨q,hq⟩:=(lt'.snd _ _ (Bs F ((i:Int),(j:Int)) (mx a l0))).isH
          exact ⟨q,Gm.mpr (Ki hq),hq⟩
        have dec:=Afa (Gm.mpr (Nu hi hj)) new is
        rw [Ag,Be,wvr (v:=.int (mx a l0)) rfl,wvr (v:=.loc le) rfl]
        refine X7 rfl rfl ?_
        rw [Fq ge1 (by show _ < 16777216;exact Ak5 hn)]
        refine q _ _ _ true _ (ex1.set bl _) (Bb _ ge1) (hes.put _ _) lt' ?_ (.inr ⟨rfl,dec⟩)
        have:=Dp es ((i:Int),(j:Int)) (.int (mx a l0))
        show _+mu (hgt g r c) (Gy r c) (upd F ((i:Int),(j:Int)) (mx a l0)) <= _+mu (hgt g r c) (Gy r c) F
        exact Ak6 dec this
      · obtain ⟨f,h1,h2⟩:=hf h
        exact same (L.closed ha hk lt.high (fun l e=>by cases e;exact ⟨f,h1,h2⟩)) _
end
inductive TInv (H:Hp) (g:List (List Val)) (r c l le:Nat) (x1:Val) (x3:Option Val) (D:Key -> Prop) (F0:Key -> Option Int) (C:Nat) (P:Nat -> Nat -> Prop) (x5:Option Val):Env' -> Hp -> Prop
  | mk {K:Hp} (es:List (Key × Val)) (F:Key -> Option Int) (m:Bool) (x6 x7:Option Val) (ex:Ext H K) (ge:K[le]?=some (.dict es)) (hes:Has es F) (lt:Lt (hgt g r c) D F) (b1:es.length+muG g r c F <= C)
      (cl:(m=false /\ F=F0 /\ ∀ i j:Nat,P i j -> N0 (hgt g r c) F0 ((i:Int),(j:Int))) \/ (m=true /\ muG g r c F < muG g r c F0)) :
    TInv H g r c l le x1 x3 D F0 C P x5 [some (.loc l),some x1,some (.loc le),x3,some (.bool m),x5,x6,x7] K
section
variable {T:Tab} {Φ:Funs} {Γ:Env'} {H K:Hp} {Q:Val -> Hp -> Prop} {E:Nat -> Hp -> Prop} {d:Nat} {QS:Env' -> Hp -> Prop} {R:Val -> Hp -> Prop} {ES:Nat -> Env' -> Hp -> Prop} {l b s r c le:Nat} {g:List (List Val)} {F:Key -> Option Int} {es:List (Key × Val)} {D:Key -> Prop}
theorem TInv.imp {x1:Val} {x3 x5:Option Val} {F0:Key -> Option Int} {C:Nat} {P P':Nat -> Nat -> Prop} {Γ:Env'} (x:TInv H g r c l le x1 x3 D F0 C P x5 Γ K) (i:∀ i j,P' i j -> P i j):TInv H g r c l le x1 x3 D F0 C P' x5 Γ K:=by
  obtain ⟨es,F,m,x6,x7,ex,ge,hes,lt,b1,cl⟩:=x
  exact .mk es F m x6 x7 ex ge hes lt b1 (cl.imp (fun h=>⟨h.1,h.2.1,fun a b p=>h.2.2 a b (i a b p)⟩) id)
theorem Afb {w:List Val} {Γ:Env'} (h0:Γ[0]?=some (some (.loc l))) (hS:OkS r c) (og:OkG g r c) (G:GAt H l b s g):wpE T Φ (.bf .len (.cons (.sub (.var 0) (.int 0)) .nil)) Γ H (fun v H'=>v=.int (c:Int) /\ H'=H) NoE /\ wpE T Φ (.bf .len (.cons (.var 0) .nil)) Γ H (fun v H'=>v=.int (r:Int) /\ H'=H) NoE:=by
  have ll:=Hz og (b:=b) (s:=s) (l:=l)
  constructor
  · rw [E7,Al,A8,wvr h0,A3]
    show Wp (C5 (.loc l) (.int 0)) H (fun v H'=>Wp (bfV .len [v]) H' _ _) _
    rw [Jj hS og G];exact ⟨rfl,rfl⟩
  · rw [E7,wcv h0,A5,A2 G.top,ll];exact ⟨rfl,rfl⟩
set_option maxHeartbeats 1000000 in
theorem Acu {x1:Val} {x3 x5 x6 x7:Option Val} (hS:OkS r c) (og:OkG g r c) (G:GAt H l b s g) (bl:H.length <= le) (ex:Ext H K) (ge:K[le]?=some (.dict es)) (hes:Has es F) (lt:Lt (hgt g r c) D F) (hn:es.length+muG g r c F < 5000)
    (q:∀ K' es' F' m' x5 x6 x7,Ext H K' -> K'[le]?=some (.dict es') -> Has es' F' -> Lt (hgt g r c) D F' -> es'.length+muG g r c F' <= es.length+muG g r c F -> ((m'=false /\ F'=F /\ Lv (hgt g r c) D F) \/ (m'=true /\ muG g r c F' < muG g r c F)) -> QS [some (.loc l),some x1,some (.loc le),x3,some (.bool m'),x5,x6,x7] K') :
    wpS T_11 (Af T_11 (d+2)) (.each 5 (.bf .range (.cons (.bf .len (.cons (.var 0) .nil)) .nil)) (.cons (.each 6 (.bf .range (.cons (.bf .len (.cons (.sub (.var 0) (.int 0)) .nil)) .nil)) (.cons (.assign 7 (.call 17 (.cons (.var 0) (.cons (.tup (.cons (.var 5) (.cons (.var 6) .nil))) (.cons (.var 2) .nil))))) (.cons (.ite (.and (.cmp .isNot (.sub (.sub (.var 0) (.var 5)) (.var 6)) .none) (.cmp .isNot (.var 7) .none)) (.cons (.assign 7 (.bf .max2 (.cons (.var 7) (.cons (.sub (.sub (.var 0) (.var 5)) (.var 6)) .nil)))) (.cons (.ite (.or (.cmp .notin (.tup (.cons (.var 5) (.cons (.var 6) .nil))) (.var 2)) (.cmp .lt (.var 7) (.sub (.var 2) (.tup (.cons (.var 5) (.cons (.var 6) .nil)))))) (.cons (.setitem (.var 2) (.tup (.cons (.var 5) (.cons (.var 6) .nil))) (.var 7)) (.cons (.assign 4 (.bool true)) .nil)) .nil) .nil)) .nil) .nil))) .nil))
      [some (.loc l),some x1,some (.loc le),x3,some (.bool false),x5,x6,x7] K QS R ES:=by
  have hS':=hS
  unfold OkS at hS'
  obtain ⟨I,hI⟩:=Dw (fun (k:Nat) (Γ:Env') (K:Hp)=>∃ x5,TInv H g r c l le x1 x3 D F (es.length+muG g r c F) (fun i j=>i < k /\ j < c) x5 Γ K)
  refine Em (n:=r) I (Afb (w:=[]) rfl hS og (G.ext ex)).2 ⟨by exact Ahb hS',by exact Ahc hS'⟩ ((hI _ _ _).mpr ⟨_,.mk es F false _ _ ex ge hes lt (Nat.le_refl _) (.inl ⟨rfl,rfl,fun i j h=>absurd h.1 (Nat.not_lt_zero _)⟩)⟩) ?_ ?_
  · intro i Γ K1 hi h
    obtain ⟨_,x⟩:=(hI _ _ _).mp h
    have hi':i < r:=by exact o43 hi
    obtain ⟨J,hJ⟩:=Dw (fun (k:Nat) (Γ:Env') (K:Hp)=>TInv H g r c l le x1 x3 D F (es.length+muG g r c F) (fun i' j'=>(i' < i /\ j' < c) \/ (i'=i /\ j' < k)) (some (.int (i:Int))) Γ K)
    obtain ⟨es1,F1,m1,x6,x7,ex1,ge1,hes1,lt1,b1,cl⟩:=x
    refine Em (n:=c) J (Afb (w:=[]) rfl hS og (G.ext ex1)).1 ⟨by exact Ahm hS',by exact Ahn hS'⟩ ((hJ _ _ _).mpr (.mk es1 F1 m1 x6 x7 ex1 ge1 hes1 lt1 b1 (cl.imp (fun h=>⟨h.1,h.2.1,fun i' j' p=>h.2.2 i' j' (p.resolve_right fun w=>absurd w.2 (Nat.not_lt_zero _))⟩) id))) ?_ ?_
    · clear cl b1 lt1 hes1 ge1 ex1
      intro j Γ K2 hj h
      obtain ⟨es1,F1,m1,x6,x7,ex1,ge1,hes1,lt1,b1,cl⟩:=(hJ _ _ _).mp h
      have hj':j < c:=by exact o43 hj
      refine Act hS og G hi' hj' bl ex1 ge1 hes1 lt1 (by exact Ak7 hn b1) fun K' es' F' m' x7' ex' ge' hes' lt' b' o=>(hJ _ _ _).mpr (.mk es' F' m' _ x7' ex' ge' hes' lt' (Nat.le_trans b' b1) ?_)
      rcases o with ⟨rfl,rfl,c1⟩ | ⟨rfl,dec⟩
      · refine cl.imp (fun h=>⟨h.1,h.2.1,fun i' j' p=>?_⟩) id
        rcases p with p | ⟨rfl,p⟩
        · exact h.2.2 i' j' (.inl p)
        · by_cases e:j'=j
          · refine Eq.symm e▸?_;rw [<- h.2.1];exact c1
          · exact h.2.2 i' j' (.inr ⟨rfl,by exact Ak8 p e⟩)
      · refine .inr ⟨rfl,?_⟩
        rcases cl with ⟨_,rfl,_⟩ | ⟨_,l2⟩
        · exact dec
        · exact Nat.lt_trans dec l2
    · intro Γ K2 h
      rw [Int.toNat_natCast] at h
      refine (hI _ _ _).mpr ⟨_,((hJ _ _ _).mp h).imp fun i' j' p=>?_⟩
      by_cases e:i'=i
      · exact .inr ⟨e,p.2⟩
      · exact .inl ⟨by exact Ak9 p e,p.2⟩
  · intro Γ K1 h
    rw [Int.toNat_natCast] at h
    obtain ⟨x5,es1,F1,m1,x6,x7,ex1,ge1,hes1,lt1,b1,cl⟩:=(hI _ _ _).mp h
    refine q K1 es1 F1 m1 x5 x6 x7 ex1 ge1 hes1 lt1 b1 (cl.imp (fun h=>⟨h.1,h.2.1,?_⟩) id)
    refine (h.2.1▸lt1:Lt (hgt g r c) D F).fin fun k a ha=>?_
    refine ex2 (Hc (Ki ha)) fun i j zz=>Av zz fun zr2 hi hj=>?_;subst zr2
    exact h.2.2 i j ⟨hi,hj⟩
end
inductive VInv (H:Hp) (g:List (List Val)) (r c l le:Nat) (x1:Val) (D:Key -> Prop):Nat -> Env' -> Hp -> Prop
  | mk {n:Nat} {K:Hp} (es:List (Key × Val)) (F:Key -> Option Int) (m:Bool) (x3 x5 x6 x7:Option Val) (ex:Ext H K) (ge:K[le]?=some (.dict es)) (hes:Has es F) (lt:Lt (hgt g r c) D F) (b1:es.length+muG g r c F < 5000) (hn:n=if m=true then muG g r c F+1 else 0) (cl:m=false -> Lv (hgt g r c) D F) :
    VInv H g r c l le x1 D n [some (.loc l),some x1,some (.loc le),x3,some (.bool m),x5,x6,x7] K
inductive DInv (H:Hp) (g:List (List Val)) (r c l le:Nat) (x1:Val) (ds:List Val):Nat -> Env' -> Hp -> Prop
  | mk {n:Nat} {K:Hp} (es:List (Key × Val)) (F:Key -> Option Int) (x3:Option Val) (ex:Ext H K) (ge:K[le]?=some (.dict es)) (hes:Has es F) (b1:es.length <= n) (dr:∀ k,Aa k∈ds.take n -> F k=hgt g r c k) (only:∀ k f,F k=some f -> Aa k∈ds.take n) :
    DInv H g r c l le x1 ds n [some (.loc l),some x1,some (.loc le),x3,none,none,none,none] K
section
variable {T:Tab} {Φ:Funs} {Γ:Env'} {H K:Hp} {Q:Val -> Hp -> Prop} {E:Nat -> Hp -> Prop} {d:Nat} {QS:Env' -> Hp -> Prop} {R:Val -> Hp -> Prop} {ES:Nat -> Env' -> Hp -> Prop} {l b s r c le m:Nat} {g:List (List Val)} {F:Key -> Option Int} {es:List (Key × Val)} {D:Key -> Prop} {ds:List Val}
set_option maxHeartbeats 1000000 in
theorem Acv {x1:Val} {x3:Option Val} (hS:OkS r c) (og:OkG g r c) (G:GAt H l b s g) (bl:H.length <= le) (ex:Ext H K) (ge:K[le]?=some (.dict es)) (hes:Has es F) (lt:Lt (hgt g r c) D F) (hn:es.length+muG g r c F < 5000)
    (q:∀ K' es' F' x3 x4 x5 x6 x7,Ext H K' -> K'[le]?=some (.dict es') -> Has es' F' -> Lv (hgt g r c) D F' -> QS [some (.loc l),some x1,some (.loc le),x3,x4,x5,x6,x7] K') :
    wpS T_11 (Af T_11 (d+2)) (.loop (.var 4) (.cons (.assign 4 (.bool false)) (.cons (.each 5 (.bf .range (.cons (.bf .len (.cons (.var 0) .nil)) .nil)) (.cons (.each 6 (.bf .range (.cons (.bf .len (.cons (.sub (.var 0) (.int 0)) .nil)) .nil)) (.cons (.assign 7 (.call 17 (.cons (.var 0) (.cons (.tup (.cons (.var 5) (.cons (.var 6) .nil))) (.cons (.var 2) .nil))))) (.cons (.ite (.and (.cmp .isNot (.sub (.sub (.var 0) (.var 5)) (.var 6)) .none) (.cmp .isNot (.var 7) .none)) (.cons (.assign 7 (.bf .max2 (.cons (.var 7) (.cons (.sub (.sub (.var 0) (.var 5)) (.var 6)) .nil)))) (.cons (.ite (.or (.cmp .notin (.tup (.cons (.var 5) (.cons (.var 6) .nil))) (.var 2)) (.cmp .lt (.var 7) (.sub (.var 2) (.tup (.cons (.var 5) (.cons (.var 6) .nil)))))) (.cons (.setitem (.var 2) (.tup (.cons (.var 5) (.cons (.var 6) .nil))) (.var 7)) (.cons (.assign 4 (.bool true)) .nil)) .nil) .nil)) .nil) .nil))) .nil)) .nil)))
      [some (.loc l),some x1,some (.loc le),x3,some (.bool true),none,none,none] K QS R ES:=by
  obtain ⟨I,hI⟩:=Dw (VInv H g r c l le x1 D)
  refine Gl I (n:=muG g r c F+1) (by show _ < 2 ^ 40;omega) ((hI _ _ _).mpr (.mk es F true x3 _ _ _ ex ge hes lt hn rfl (fun h=>nomatch h))) ?_
  clear ex ge hes lt hn
  intro n Γ K' h
  obtain ⟨es,F,m,x3,x5,x6,x7,ex,ge,hes,lt,b1,hn,cl⟩:=(hI _ _ _).mp h
  rw [wvr (v:=.bool m) rfl]
  refine A7 (fun e=>?_) fun e=>?_
  · subst e
    refine Ak (fun v K=>v=.bool false /\ K'=K) ⟨rfl,rfl⟩ ?_
    rintro v K ⟨rfl,rfl⟩
    refine Acu hS og G bl ex ge hes lt b1 fun K2 es2 F2 m2 y5 y6 y7 ex2 ge2 hes2 lt2 b2 o=>?_
    rcases o with ⟨rfl,rfl,lv⟩ | ⟨rfl,dec⟩
    · exact ⟨0,by rw [hn];exact Nat.succ_pos _,(hI _ _ _).mpr (.mk es2 F2 false x3 y5 y6 y7 ex2 ge2 hes2 lt2 (by exact Ala b1 b2) rfl (fun _=>lv))⟩
    · exact ⟨muG g r c F2+1,by rw [hn];exact Nat.succ_lt_succ dec,(hI _ _ _).mpr (.mk es2 F2 true x3 y5 y6 y7 ex2 ge2 hes2 lt2 (by exact Alb b1 b2) rfl (fun h=>nomatch h))⟩
  · subst e
    exact q K' es F x3 _ x5 x6 x7 ex ge hes (cl rfl)
theorem Rs (hS:OkS r c) (og:OkG g r c) (G:GAt H l b s g) (rc:r * c <= 63) (hm:H[m]?=some (.list ds)) (hdl:ds.length <= 900) (hd:∀ v∈ds,∃ k a,v=Aa k /\ hgt g r c k=some a) :
    Wp (Af T_11 (d+3) 18 [.loc l,.loc m]) H (fun v K=>∃ le es F,v=.loc le /\ H.length <= le /\ Ext H K /\ K[le]?=some (.dict es) /\ Has es F /\ Lv (hgt g r c) (fun k=>Aa k∈ds) F) NoE:=by
  rw [Ap (g:=Zj) rfl rfl]
  refine Ak (fun v K=>v=.loc H.length /\ K=H++[.dict []]) ⟨rfl,rfl⟩ ?_
  rintro v K ⟨rfl,e⟩
  rw [e]
  clear e K
  obtain ⟨I,hI⟩:=Dw (DInv H g r c l H.length (.loc m) ds)
  refine Ce (I ds.length) ?_ ?_
  · refine Gh I (l:=m) (xs:=ds) ⟨rfl,rfl⟩ (Ext.get ⟨_,rfl⟩ hm) ((hI _ _ _).mpr (.mk [] (fun _=>none) none ⟨_,rfl⟩ (Aj H _) (fun _=>rfl) (Nat.le_refl _) (fun k h=>by rw [List.take_zero] at h;cases h) (fun k f h=>nomatch h))) ?_ ?_ (fun Γ K h=>h)
    · intro n Γ K h
      refine Ah fun G kG=>?_
      obtain ⟨es,F,x3,ex,_⟩:=(hI _ _ _).mp h
      refine kG ?_
      exact ex.get hm
    · intro n z Γ K hz h
      obtain ⟨es,F,x3,ex,ge,hes,b1,dr,only⟩:=(hI _ _ _).mp h
      have ln:=(List.getElem?_eq_some_iff.mp hz).1
      refine ex2 (hd z (List.mem_of_getElem? hz)) fun k a zz=>Ad zz fun zr2 ha=>?_;subst zr2
      refine ex2 (Hc (Ki ha)) fun i j zz=>Av zz fun zr2 hi hj=>?_;subst zr2
      refine ex2 (I4 og hi hj) fun w y zz=>Av zz fun hw hy hcase=>?_
      rcases hcase with ⟨_,hn⟩ | ⟨a',rfl,_,ha'⟩
      · rw [hn] at ha;cases ha
      have ea:a'=a:=by rw [ha] at ha';exact (Option.some.inj ha').symm
      subst ea
      rw [Ag,Be]
      show Wp (C5 (.loc l) (.int (i:Int))) K (fun v H'=>Wp (C5 v (.int (j:Int))) H' _ _) _
      rw [Acm (G.ext ex) hw hy]
      show Wp (Ax (.loc H.length) (.tup [.int (i:Int),.int (j:Int)]) (.int a')) K _ _
      rw [Fq ge (by show _ < 16777216;exact Alc ln hdl b1),Bv]
      refine (hI _ _ _).mpr (.mk _ _ _ (ex.set (Nat.le_refl _) _) (Bb _ ge) (hes.put _ _) (Nat.le_trans (Dp _ _ _) (Nat.succ_le_succ b1)) (fun k hk=>?_) fun k f hf=>?_)
      · by_cases e:k=((i:Int),(j:Int))
        · rw [e,Bs,ha]
        · rw [Co _ _ e]
          rw [Cf hz] at hk
          rcases List.mem_append.mp hk with hk | hk
          · exact dr k hk
          · exact absurd (Dx (List.mem_singleton.mp hk)) e
      · rw [Cf hz]
        by_cases e:k=((i:Int),(j:Int))
        · exact List.mem_append.mpr (.inr (List.mem_singleton.mpr (congrArg Aa e)))
        · rw [Co _ _ e] at hf
          exact List.mem_append.mpr (.inl (only k f hf))
  · intro Γ K h
    obtain ⟨es,F,x3,ex,ge,hes,b1,dr,only⟩:=(hI _ _ _).mp h
    rw [List.take_length] at dr only
    have lt:Lt (hgt g r c) (fun k=>Aa k∈ds) F:=⟨fun k f hf=>.drain (only k f hf) ((dr k (only k f hf)).symm.trans hf),fun k hk=>dr k hk⟩
    have mb:=Agu (hgt g r c) (Gy r c) F
    rw [H6] at mb
    have m2:r * c * (r * c+1) <= 63 * (63+1):=Nat.mul_le_mul rc (Nat.add_le_add_right rc 1)
    refine Ak (fun v K'=>v=.bool true /\ K=K') ⟨rfl,rfl⟩ ?_
    rintro v K' ⟨rfl,rfl⟩
    refine Ce (QS:=_) _ (Acv hS og G (Nat.le_refl _) ex ge hes lt (by show es.length+mu (hgt g r c) (Gy r c) F < 5000;exact Ald m2 hdl b1 mb) fun K2 es2 F2 y3 y4 y5 y6 y7 ex2 ge2 hes2 lv=>?_) (fun Γ K h=>h)
    exact ⟨H.length,es2,F2,rfl,Nat.le_refl _,ex2,ge2,hes2,lv⟩
end
section
variable {T:Tab} {Φ:Funs} {Γ:Env'} {H K:Hp} {Q:Val -> Hp -> Prop} {E:Nat -> Hp -> Prop} {d:Nat} {QS:Env' -> Hp -> Prop} {R:Val -> Hp -> Prop} {ES:Nat -> Env' -> Hp -> Prop} {o l b s r c lg ls m:Nat} {g:List (List Val)} {F:Key -> Option Int} {es0:List (Key × Val)} {D:List Val} {v:Val}
theorem Vm:Af T_11 (d+1) 19 [.exc 3] H=.ok (.str "cell") H:=by kernel_rfl
theorem Vn:Af T_11 (d+1) 19 [.exc 6] H=.ok (.str "rain") H:=by kernel_rfl
end
theorem Ia:∀ ds:List PyData,(∀ d∈ds,PyData.eqv d d=true) -> PyData.eqvAll ds ds=true
  | [],_=>rfl
  | d :: ds,h=>by
    show (PyData.eqv d d && PyData.eqvAll ds ds)=true
    rw [h d (.head _),Ia ds fun x hx=>h x (.tail _ hx)];rfl
noncomputable def vd:Val -> PyData
  | .int i=>.int i
  | _=>.none
noncomputable def NV (v:Val):Prop:=v=.none \/ ∃ n,v=.int n
theorem Acw {v:Val} (h:NV v):PyData.eqv (vd v) (vd v)=true:=by
  rcases h with rfl | ⟨n,rfl⟩
  · rfl
  · show (n == n)=true;simp
section
variable {T:Tab} {Φ:Funs} {Γ:Env'} {H K:Hp} {Q:Val -> Hp -> Prop} {E:Nat -> Hp -> Prop} {d:Nat} {QS:Env' -> Hp -> Prop} {R:Val -> Hp -> Prop} {ES:Nat -> Env' -> Hp -> Prop} {l b s r c:Nat} {g:List (List Val)}
theorem Acx {n:Nat} {v:Val} (h:NV v):A6 H n v=some (vd v):=by
  rcases h with rfl | ⟨i,rfl⟩
  · exact Ue n
  · exact Xl n i
theorem Ko {n l:Nat} {xs:List Val} (h:H[l]?=some (.list xs)):A6 H (n+1) (.loc l)=(Jo (A6 H n) xs).map .list:=by
  have:A6 H (n+1) (.loc l)=(match H[l]? with | some (.list xs)=>(Jo (A6 H n) xs).map .list | _=>none):=rfl
  rw [this,h]
theorem X8 {n l:Nat} {w:List Val} (h:H[l]?=some (.list w)) (hw:∀ v∈w,NV v):A6 H (n+1) (.loc l)=some (.list (w.map vd)):=by
  rw [Ko h]
  have:=Mo (f:=A6 H n) (v:=fun x=>x) (gd:=vd) w (fun v hv=>Acx (hw v hv))
  rw [List.map_id'] at this
  rw [this];rfl
theorem N1 (G:GAt H l b s g) (hg:∀ w∈g,∀ v∈w,NV v):A6 H Gp (.loc l)=some (.list (g.map fun w=>.list (w.map vd))):=by
  show A6 H (5+1) (.loc l)=_
  rw [Ko G.top]
  have e:(List.range g.length).map (fun i=>PyData.list (((g[i]?).getD []).map vd))=g.map fun w=>.list (w.map vd):=by
    refine List.ext_getElem? fun i=>?_
    rw [List.getElem?_map,List.getElem?_map]
    by_cases q:i < g.length
    · rw [List.getElem?_range q]
      show some (PyData.list (((g[i]?).getD []).map vd))=_
      rw [List.getElem?_eq_getElem q];rfl
    · rw [List.getElem?_eq_none (by rw [List.length_range];exact o32 q),List.getElem?_eq_none (by exact o32 q)];rfl
  rw [Mo (gd:=fun i=>PyData.list (((g[i]?).getD []).map vd)) (List.range g.length) (fun i hi=>?_),e]
  · rfl
  · have q:=List.mem_range.mp hi
    have hw:g[i]?=some g[i]:=List.getElem?_eq_getElem q
    rw [X8 (n:=4) (G.row i _ hw) (hg _ (List.getElem_mem q)),hw];rfl
theorem X9 {l' b' s':Nat} (G:GAt H l b s g) (G':GAt H l' b' s' g) (hg:∀ w∈g,∀ v∈w,NV v):Gq H (.loc l) (.loc l')=some true:=by
  unfold Gq
  rw [N1 G hg,N1 G' hg]
  show some (PyData.eqvAll _ _)=_
  rw [Ia]
  intro x hx
  refine ex1 (List.mem_map.mp hx) fun w zz=>Ad zz fun hw zr2=>?_;subst zr2
  refine Ia _ fun y hy=>?_
  refine ex1 (List.mem_map.mp hy) fun v zz=>Ad zz fun hv zr2=>?_;subst zr2
  exact Acw (hg w hw v hv)
theorem OkG.nv (og:OkG g r c):∀ w∈g,∀ v∈w,NV v:=fun w hw v hv=>by
  obtain ⟨i,hi⟩:=List.mem_iff_getElem?.mp hw
  rcases (og.row i w hi).2 v hv with h | ⟨n,h,_⟩
  · exact .inl h
  · exact .inr ⟨n,h⟩
theorem Yb {a a':Nat} {ks:List Key} (ha:H[a]?=some (.list (ks.map Aa))) (hb:H[a']?=some (.list (ks.map Aa))):Gq H (.loc a) (.loc a')=some true:=by
  refine Xz (ds:=ks.map fun q=>PyData.tuple [.int q.1,.int q.2]) ha hb (Mo ks fun k _=>rfl) ?_
  refine Ia _ fun x hx=>?_
  refine ex1 (List.mem_map.mp hx) fun k zz=>Ad zz fun _ hr0=>?_;refine hr0▸?_
  show (k.1 == k.1 && (k.2 == k.2 && true))=true
  simp
theorem Rt {es:List (Key × Val)} {pd:Key -> Bool} (h:∀ k,inD es (Aa k)=true↔k∈(Gy r c).filter pd):(cells r c).filter (inD es)=((Gy r c).filter pd).map Aa:=by
  rw [<- Iu,List.filter_map]
  congr 1
  refine List.filter_congr fun k hk=>?_
  rw [Bool.eq_iff_iff]
  show inD es (Aa k)=true↔_
  rw [h k,List.mem_filter]
  exact ⟨fun x=>x.2,fun x=>⟨hk,x⟩⟩
end
theorem Kp {k:Key} {ks:List Key}:Aa k∈ks.map Aa↔k∈ks:=by
  constructor
  · intro h
    refine ex1 (List.mem_map.mp h) fun q zz=>Ad zz fun hq e=>?_
    rw [<- Dx e];exact hq
  · exact fun h=>List.mem_map.mpr ⟨k,h,rfl⟩
structure Lk (H:Hp) (r c:Nat) (g:List (List Val)) (ks:List Key) (l m o:Nat):Prop where
  s:OkS r c
  n:r * c <= 63
  og:OkG g r c
  G:GAt H l (l+2) 2 g
  m:H[m]?=some (.list (ks.map Aa))
  L:∃ lg b' ls es,LandAt H o r c lg b' 1 ls g es /\ (cells r c).filter (inD es)=ks.map Aa
  d:∀ k∈ks,∃ a,hgt g r c k=some a
theorem Kn.ext {H H':Hp} {v:Val} (x:Kn H v) (e:Ext H H'):Kn H' v:=by
  cases v with
  | loc l=>obtain ⟨xs,h⟩:=x;exact ⟨xs,e.get h⟩
  | _=>exact x
section
variable {T:Tab} {Φ:Funs} {Γ:Env'} {H K:Hp} {Q:Val -> Hp -> Prop} {E:Nat -> Hp -> Prop} {d:Nat} {QS:Env' -> Hp -> Prop} {R:Val -> Hp -> Prop} {ES:Nat -> Env' -> Hp -> Prop} {l r c m o:Nat} {g:List (List Val)} {ks:List Key} {v:Val}
theorem Lk.ext {H':Hp} (x:Lk H r c g ks l m o) (e:Ext H H'):Lk H' r c g ks l m o:=by
  refine Ah fun G kG=>?_
  refine ex4 x.L fun lg b' ls es zz=>Ad zz fun L q=>?_
  refine kG ?_
  exact ⟨x.s,x.n,x.og,x.G.ext e,e.get x.m,⟨lg,b',ls,es,L.ext e,q⟩,x.d⟩
theorem Lk.way (x:Lk H r c g ks l m o) (kn:Kn H v):Wp (Af T_11 (d+6) 7 [.loc o,v]) H (Qa g r c (ks.map Aa) H v) (Nz g r c (ks.map Aa) H v):=by
  refine ex4 x.L fun lg b' ls es zz=>Ad zz fun L q=>?_
  have hS:=x.s
  unfold OkS at hS
  have:=Acr (d:=d) x.og hS.2.1 hS.2.2.2 (Nat.le_trans x.n (by decide)) L (fun k hk=>x.d k (Kp.mp (q▸hk))) kn
  rw [q] at this;exact this
theorem Vo {i l:Nat} {it:ME} {body:MSs} {xs:List Val} {K0:Hp} (I:Nat -> Env' -> Hp -> Prop) (hit:wpE T Φ it Γ H (fun v H'=>v=.loc l /\ H'=K0) NoE) (hl:K0[l]?=some (.list xs)) (h0:I 0 Γ K0) (hx:∀ k Γ K,I k Γ K -> K[l]?=some (.list xs))
    (hs:∀ k x Γ K,xs[k]?=some x -> I k Γ K -> wpSs T Φ body (Γ.set i (some x)) K (I (k+1)) R ES) (hd:∀ Γ K,I xs.length Γ K -> QS Γ K):wpS T Φ (.each i it body) Γ H QS R ES:=by
  refine C1 (Ba hit ?_)
  rintro v H' ⟨rfl,e⟩
  rw [e,B0 (Bc hl)]
  exact B6 I h0 hd (fun k Γ K _ h=>Bk (hx k Γ K h)) fun k x Γ K hx h=>⟨_,rfl,hs k x Γ K hx h⟩
end
noncomputable def rv (p:Key × Int):Val:=.tup [Aa p.1,.int p.2]
noncomputable def rk (r c:Nat) (v:Val):Option Nat:=match Adb v with
  | none=>some 6
  | some p=>if (Fv r c p.1).isSome=true then (if H8 0 1000000000 p.2=true then none else some 6) else some 3
noncomputable def KR (H:Hp) (v:Val):Prop:=(Kn H v /\ Kl v) \/ ∃ x y,v=.tup [x,y] /\ Kn H x /\ Ae5 y
noncomputable def OkR (r c:Nat) (p:Key × Int):Prop:=inR r c p.1=true /\ 0 <= p.2 /\ p.2 <= 1000000000
theorem Gi {r c:Nat} {k:Key} (h:inR r c k=true):Fv r c (Aa k)=some k:=if_pos h
theorem KR.ext {H H':Hp} {v:Val} (x:KR H v) (e:Ext H H'):KR H' v:=by
  rcases x with ⟨k,n⟩ | ⟨x,y,ev,kx,ky⟩
  · exact .inl ⟨k.ext e,n⟩
  · exact .inr ⟨x,y,ev,kx.ext e,ky⟩
theorem Z3 {H:Hp} (k:Key):Kn H (Aa k):=fun x hx=>by
  rcases List.mem_cons.mp hx with rfl | hx
  · trivial
  · rcases List.mem_cons.mp hx with rfl | hx
    · trivial
    · cases hx
theorem KR.rv {H:Hp} (p:Key × Int):KR H (rv p):=.inr ⟨_,_,rfl,Z3 _,trivial⟩
theorem Afc {r c:Nat} {p:Key × Int} (h:OkR r c p):rk r c (rv p)=none:=by
  show (if (Fv r c (Aa p.1)).isSome=true then (if H8 0 1000000000 (.int p.2)=true then none else some 6) else some 3)=none
  rw [Gi h.1]
  refine (if_pos rfl).trans (if_pos ?_)
  show (decide (0 <= p.2) && decide (p.2 <= 1000000000))=true
  rw [decide_eq_true h.2.1,decide_eq_true h.2.2];rfl
theorem Z4 {r c:Nat} {v:Val} (h:Kl v):rk r c v=some 6:=by
  have:Adb v=none:=by
    cases e:Adb v with
    | none=>rfl
    | some p=>rw [N6 e] at h;exact h.elim
  unfold rk;rw [this]
section
variable {T:Tab} {Φ:Funs} {Γ:Env'} {H K:Hp} {Q:Val -> Hp -> Prop} {E:Nat -> Hp -> Prop} {d:Nat} {QS:Env' -> Hp -> Prop} {R:Val -> Hp -> Prop} {ES:Nat -> Env' -> Hp -> Prop} {l r c m o lg b s ls:Nat} {g:List (List Val)} {es:List (Key × Val)} {v:Val}
theorem Afd {fs:List (Nat × Val)} {x1:Val} (f0:H[o]?=some (.inst 7 fs)) (f1:fs.lookup 0=some (.int (r:Int))) (f2:fs.lookup 1=some (.int (c:Int))) (kv:KR H v)
    (q:rk r c v=none -> QS [some (.loc o),some x1,some v] H) (qe:∀ e,rk r c v=some e -> ES e [some (.loc o),some x1,some v] H) :
    wpSs T_11 (Af T_11 (d+2)) (.cons (.ite (.or (.not (.isinst (.var 2) .tuple)) (.cmp .ne (.bf .len (.cons (.var 2) .nil)) (.int 2))) (.cons (.raise 6 "a pair is wanted") .nil) .nil) (.cons (.ite (.not (.call 1 (.cons (.attr (.var 0) 0) (.cons (.attr (.var 0) 1) (.cons (.sub (.var 2) (.int 0)) .nil))))) (.cons (.raise 3 "no such cell") .nil) .nil) (.cons (.ite (.not (.call 0 (.cons (.sub (.var 2) (.int 1)) (.cons (.int 0) (.cons (.glob 2) .nil))))) (.cons (.raise 6 "an amount is wanted") .nil) .nil) .nil)))
      [some (.loc o),some x1,some v] H QS R ES:=by
  rcases kv with ⟨k,np⟩ | ⟨x,y,rfl,kx,ky⟩
  · rw [Ag,Bd]
    refine (Ae6 k np rfl ?_ (e:=.none)).2
    exact ⟨rfl,qe 6 (Z4 np)⟩
  · rw [Ag]
    show wpSs T_11 _ _ _ H _ _ _
    rw [Bv,Ag,Bd,Ca,Ay,Al,wat rfl f0 f1,Al,wat rfl f0 f2]
    refine (Ny kx).then ?_
    rintro w K ⟨rfl,e0⟩
    rw [e0]
    clear e0 K
    rw [Ac,Ac,Ek]
    have hk:rk r c (.tup [x,y])=if (Fv r c x).isSome=true then (if H8 0 1000000000 y=true then none else some 6) else some 3:=rfl
    refine A7 (fun e=>?_) fun e=>?_
    · rw [if_pos e] at hk
      rw [Bv,Ag,Bd,Ca]
      show Wp (Af T_11 (d+1+1) 0 [y,.int 0,.int 1000000000]) H _ _
      rw [Ix ky,Ac,Ac,Ek]
      refine A7 (fun e2=>?_) fun e2=>?_
      · rw [if_pos e2] at hk;exact q hk
      · rw [e2,if_neg Bool.false_ne_true] at hk;exact ⟨rfl,qe 6 hk⟩
    · rw [e,if_neg Bool.false_ne_true] at hk;exact ⟨rfl,qe 3 hk⟩
noncomputable def D7 (r c:Nat):List Val -> Option Nat
  | []=>none
  | v :: vs=>match rk r c v with
    | some e=>some e
    | none=>D7 r c vs
theorem Vp {vs:List Val} (h:∀ v∈vs,rk r c v=none):D7 r c vs=none:=by
  induction vs with
  | nil=>rfl
  | cons v vs ih =>
    show (match rk r c v with | some e=>some e | none=>D7 r c vs)=none
    rw [h v (.head _)];exact ih fun w hw=>h w (.tail _ hw)
theorem Vq {vs ws:List Val} {e:Nat} (h:∀ v∈vs,rk r c v=none) (hv:rk r c v=some e):D7 r c (vs++v :: ws)=some e:=by
  induction vs with
  | nil=>show (match rk r c v with | some e=>some e | none=>D7 r c ws)=some e;rw [hv]
  | cons u vs ih =>
    show (match rk r c u with | some e=>some e | none=>D7 r c (vs++v :: ws))=some e
    rw [h u (.head _)];exact ih fun w hw=>h w (.tail _ hw)
theorem I5 {lr:Nat} {vs:List Val} {fs:List (Nat × Val)} (f0:H[o]?=some (.inst 7 fs)) (f1:fs.lookup 0=some (.int (r:Int))) (f2:fs.lookup 1=some (.int (c:Int))) (hl:H[lr]?=some (.list vs)) (kv:∀ v∈vs,KR H v) :
    Wp (Af T_11 (d+3) 35 [.loc o,.loc lr]) H (fun v K=>v=.none /\ K=H /\ D7 r c vs=none) (fun e K=>K=H /\ D7 r c vs=some e):=by
  rw [Ap (g:=Zq) rfl rfl]
  show wpSs T_11 (Af T_11 (d+2)) _ [some (.loc o),some (.loc lr),none] H _ _ _
  refine C1 ?_
  show Ea (Cr (.loc lr) H) _
  rw [B0 (Bc hl)]
  obtain ⟨I,hI⟩:=Dw (fun (ws:List Val) (Γ:Env') (K:Hp)=>K=H /\ D7 r c ws=D7 r c vs /\ (∀ v∈ws,KR H v) /\ ∃ a,Γ=[some (.loc o),some (.loc lr),a])
  refine J9 I vs _ _ ((hI _ _ _).mpr ⟨rfl,rfl,kv,_,rfl⟩) ?_ ?_ ?_
  · intro Γ K h
    refine Cg ((hI _ _ _).mp h) fun zr0 e _ zz=>ex1 zz fun a zr4=>?_;subst zr0;subst zr4
    exact ⟨rfl,rfl,e.symm⟩
  · intro ws Γ K h
    obtain ⟨hr0,_⟩:=(hI _ _ _).mp h;refine Eq.symm hr0▸?_
    exact Bk hl
  · intro v ws Γ K h
    refine Cg ((hI _ _ _).mp h) fun zr0 e kw zz=>ex1 zz fun a zr4=>?_;subst zr0;subst zr4
    have e:(match rk r c v with | some e=>some e | none=>D7 r c ws)=D7 r c vs:=e
    refine ⟨_,rfl,?_⟩
    refine Afd (d:=d) f0 f1 f2 (kw v (.head _)) (fun hk=>?_) fun x hk=>?_
    · rw [hk] at e
      exact (hI _ _ _).mpr ⟨rfl,e,fun w hw=>kw w (.tail _ hw),_,rfl⟩
    · rw [hk] at e
      exact ⟨rfl,e.symm⟩
end
theorem Way.endD {h:Key -> Option Int} {D:Key -> Prop} {F:Key -> Option Int} {gs:List (Key × Val)} {k:Key} {ws:List Key} (x:Way h D F gs k ws):∃ d,ws.getLast?=some d /\ D d:=by
  induction x with
  | @drain k f dk e hf=>exact ⟨k,rfl,dk⟩
  | @step k p ws a fp nd e ad ha hp hk nk w ih =>
    refine ex1 ih fun d zz=>Ad zz fun e dd=>?_
    obtain ⟨t,rfl⟩:=w.head
    exact ⟨d,by rw [<- e,List.getLast?_cons_cons],dd⟩
open Classical in
noncomputable def E1 (g:List (List Val)) (r c:Nat) (D:List Val) (F:Key -> Option Int) (gs:List (Key × Val)) (k:Key):Option Key:=if h:∃ ws,WayG g r c D F gs k ws then h.choose.getLast? else none
theorem Qe {g:List (List Val)} {r c:Nat} {D:List Val} {F:Key -> Option Int} {gs:List (Key × Val)} {k:Key} {ws:List Key} (w:WayG g r c D F gs k ws):E1 g r c D F gs k=ws.getLast?:=by
  have h:∃ ws,WayG g r c D F gs k ws:=⟨ws,w⟩
  unfold E1
  rw [dif_pos h,h.choose_spec.uniq w]
theorem N2 {g:List (List Val)} {r c:Nat} {D:List Val} {F:Key -> Option Int} {gs:List (Key × Val)} {k:Key} (hf:F k=none):E1 g r c D F gs k=none:=by
  unfold E1
  rw [dif_neg]
  rintro ⟨ws,w⟩
  obtain ⟨f,e⟩:=w.level
  rw [hf] at e;cases e
noncomputable def N4 (E:Key -> Option Key) (S:(Key -> Option Int) × Int) (p:Key × Int):(Key -> Option Int) × Int:=match E p.1 with
  | none=>(S.1,S.2+p.2)
  | some d=>(upd S.1 d ((S.1 d).getD 0+p.2),S.2)
open Classical in
noncomputable def dry (D:List Val):Key -> Option Int:=fun k=>if Aa k∈D then some 0 else none
noncomputable def Bz (E:Key -> Option Key) (D:List Val) (xs:List (Key × Int)):(Key -> Option Int) × Int:=xs.foldl (N4 E) (dry D,0)
theorem Kq {E:Key -> Option Key} {D:List Val} {xs:List (Key × Int)} {n:Nat} {p:Key × Int} (h:xs[n]?=some p):Bz E D (xs.take (n+1))=N4 E (Bz E D (xs.take n)) p:=by
  unfold Bz
  rw [Cf h,List.foldl_append];rfl
noncomputable def Wet (D:List Val) (S:Key -> Option Int):Prop:=∀ k,Aa k∈D -> ∃ n,S k=some n
theorem Wet.dry (D:List Val):Wet D (dry D):=fun k h=>⟨0,if_pos h⟩
theorem Wet.put {D:List Val} {S:Key -> Option Int} (w:Wet D S) (q:Key) (n:Int):Wet D (upd S q n):=fun k h=>by
  obtain ⟨m,e⟩:=w k h
  by_cases c:k=q
  · exact ⟨n,by unfold upd;rw [if_pos c]⟩
  · exact ⟨m,by unfold upd;rw [if_neg c];exact e⟩
noncomputable def Afp (D:List Val) (S:Key -> Option Int):List Val:=D.map fun v=>.tup [v,.int (((Ef v).bind S).getD 0)]
section
variable {T:Tab} {Φ:Funs} {Γ:Env'} {H K:Hp} {Q:Val -> Hp -> Prop} {E:Nat -> Hp -> Prop} {d:Nat} {QS:Env' -> Hp -> Prop} {R:Val -> Hp -> Prop} {ES:Nat -> Env' -> Hp -> Prop} {l r c m o lg b s ls:Nat} {g:List (List Val)} {es:List (Key × Val)} {v:Val}
theorem Mp {elt it:ME} {P:Val -> Hp -> Prop} (f:Val -> Val) (hit:wpE T Φ it Γ H P NoE)
    (hK:∀ v K,P v K -> ∃ xs src,Cr v K=some (xs,src) /\ chk src xs K=true /\ xs.length < lid /\ (∀ x∈xs,wpE T Φ elt (Γ++[some x]) K (fun v K'=>v=f x /\ K'=K) NoE) /\ Q (.loc K.length) (K++[.list (xs.map f)])):wpE T Φ (.comp elt it .none) Γ H Q E:=by
  refine Ka (Ba hit ?_)
  intro v K p
  refine Ah fun G kG=>?_
  refine ex2 (hK v K p) fun xs src zz=>Fc zz fun hi ck hz he q=>?_
  refine kG ?_
  rw [hi]
  refine Hx (fun k out K'=>K'=K /\ out=(xs.take k).map f) ⟨rfl,rfl⟩ ?_ ?_ ?_
  · rintro k out _ ⟨e,_⟩;rw [e];exact ck
  · rintro k x out _ hx ⟨e,ho⟩
    rw [e]
    refine Mf (Ba (he x (List.mem_of_getElem? hx)) ?_)
    rintro v K' ⟨ev,e2⟩
    exact ⟨e2,by rw [ho,Cf hx,List.map_append,ev];rfl⟩
  · rintro zs _ ⟨e,ho⟩
    rw [e,ho,List.take_length]
    exact ⟨by rw [List.length_map];exact hz,q⟩
end
inductive RInv (lo:Nat) (W:Key -> List Key -> Prop) (K:Hp) (x0 x1 x3 x5 x6 x7:Val) (x4:Option Val) (z:Option Key):Nat -> Env' -> Hp -> Prop
  | mk (k:Key) (ws:List Key) (w:W k ws) (e:ws.getLast?=z):RInv lo W K x0 x1 x3 x5 x6 x7 x4 z ws.length [some x0,some x1,some (.loc lo),some x3,x4,some x5,some x6,some x7,some (Aa k)] K
section
variable {T:Tab} {Φ:Funs} {Γ:Env'} {H K:Hp} {Q:Val -> Hp -> Prop} {E:Nat -> Hp -> Prop} {d:Nat} {QS:Env' -> Hp -> Prop} {R:Val -> Hp -> Prop} {ES:Nat -> Env' -> Hp -> Prop} {l r c m o lg b s ls:Nat} {g:List (List Val)} {es gs:List (Key × Val)} {v:Val} {F:Key -> Option Int} {D:List Val}
theorem Acy {x0 x1 x3 x5 x6 x7:Val} {x4:Option Val} {lo:Nat} {k:Key} {ws:List Key} (w:WayG g r c D F gs k ws) (lv:Lv (hgt g r c) (fun k=>Aa k∈D) F) (hrc:r * c <= 132) (go:K[lo]?=some (.dict gs))
    (q:∀ d,ws.getLast?=some d -> QS [some x0,some x1,some (.loc lo),some x3,x4,some x5,some x6,some x7,some (Aa d)] K) :
    wpS T Φ (.loop (.cmp .isNot (.sub (.var 2) (.var 8)) .none) (.cons (.assign 8 (.sub (.var 2) (.var 8))) .nil)) [some x0,some x1,some (.loc lo),some x3,x4,some x5,some x6,some x7,some (Aa k)] K QS R ES:=by
  have len:=Way.len w lv
  obtain ⟨I,hI⟩:=Dw (RInv lo (WayG g r c D F gs) K x0 x1 x3 x5 x6 x7 x4 ws.getLast?)
  refine Gl I (n:=ws.length) (by show _ < 2 ^ 40;omega) ((hI _ _ _).mpr (.mk k ws w rfl)) ?_
  intro n Γ K' h
  obtain ⟨k,us,w,e⟩:=(hI _ _ _).mp h
  clear h
  rw [A4,wsv (v:=.loc lo) (w:=Aa k) rfl rfl]
  cases w with
  | drain dk hg hf =>
    show Wp (C5 (.loc lo) (.tup [.int k.1,.int k.2])) K _ _
    rw [Dm go hg]
    exact q k e.symm
  | @step _ p ts a fp nd hg ad ha hp hf nk w =>
    show Wp (C5 (.loc lo) (.tup [.int k.1,.int k.2])) K _ _
    rw [Dm go hg]
    show wpSs T Φ _ _ K _ _ _
    rw [Ag,Cj,wsv (v:=.loc lo) (w:=Aa k) rfl rfl]
    show Wp (C5 (.loc lo) (.tup [.int k.1,.int k.2])) K _ _
    rw [Dm go hg]
    refine ⟨ts.length,Nat.lt_succ_self _,(hI _ _ _).mpr (.mk p ts w ?_)⟩
    obtain ⟨t,rfl⟩:=w.head
    rw [<- e,List.getLast?_cons_cons]
theorem Afe {x0 x1:Val} {x4 x8:Option Val} {lo la:Nat} {am:List (Key × Val)} {S:(Key -> Option Int) × Int} {p:Key × Int} (fd:Fld g r c D F gs) (hrc:r * c <= 132) (ne:lo≠la) (go:K[lo]?=some (.dict gs)) (ga:K[la]?=some (.dict am)) (hs:Has am S.1) (wet:Wet D S.1) (al:am.length < 5000)
    (q:∀ am' x8',Has am' (N4 (E1 g r c D F gs) S p).1 -> Wet D (N4 (E1 g r c D F gs) S p).1 -> am'.length <= am.length+1 -> ∀ K',(K'=K /\ am'=am \/ K'=K.set la (.dict am')) -> QS [some x0,some x1,some (.loc lo),some (.loc la),x4,some (.int (N4 (E1 g r c D F gs) S p).2),some (Aa p.1),some (.int p.2),x8'] K') :
    wpSs T Φ (.cons (.ite (.cmp .isin (.var 6) (.var 2)) (.cons (.assign 8 (.var 6)) (.cons (.loop (.cmp .isNot (.sub (.var 2) (.var 8)) .none) (.cons (.assign 8 (.sub (.var 2) (.var 8))) .nil)) (.cons (.setitem (.var 3) (.var 8) (.bin .add (.sub (.var 3) (.var 8)) (.var 7))) .nil))) (.cons (.assign 5 (.bin .add (.var 5) (.var 7))) .nil)) .nil)
      [some x0,some x1,some (.loc lo),some (.loc la),x4,some (.int S.2),some (Aa p.1),some (.int p.2),x8] K QS R ES:=by
  rw [Ag,Bd,A4,wvr (v:=Aa p.1) rfl]
  show Ea (Dy .isin (.tup [.int p.1.1,.int p.1.2]) (.loc lo) K) _
  rw [Km go]
  refine A7 (fun e=>?_) fun e=>?_
  · have hF:∃ f,F p.1=some f:=by
      cases hf:F p.1 with
      | some f=>exact ⟨f,rfl⟩
      | none=>rw [fd.go.no _ hf] at e;cases e
    refine Ah fun G kG=>?_
    obtain ⟨f,hf⟩:=hF
    obtain ⟨ws,w⟩:=fd.go.way hf
    refine ex1 w.endD fun t zz=>Ad zz fun et dt=>?_
    have ee:E1 g r c D F gs p.1=some t:=(Qe w).trans et
    obtain ⟨n,hn⟩:=wet t dt
    refine kG ?_
    have ep:N4 (E1 g r c D F gs) S p=(upd S.1 t (n+p.2),S.2):=by unfold N4;rw [ee];show (upd S.1 t ((S.1 t).getD 0+p.2),S.2)=_;rw [hn];rfl
    rw [ep] at q
    rw [Ag,Cj,wvr (v:=Aa p.1) rfl]
    refine Acy w fd.lv hrc go fun t' et'=>?_
    cases et.symm.trans et'
    have hg:D5 am t=some (.int n):=by rw [hs t,hn];rfl
    rw [Ag,Be,B9,wsv (v:=.loc la) (w:=Aa t) rfl rfl]
    show Wp (C5 (.loc la) (.tup [.int t.1,.int t.2])) K _ _
    rw [Dm ga hg,wvr (v:=.int p.2) rfl,Gb,wvr (v:=.loc la) rfl,wvr (v:=Aa t) rfl]
    show Wp (Ax (.loc la) (.tup [.int t.1,.int t.2]) _) K _ _
    rw [Fq ga (Nat.lt_trans al (by decide))]
    exact q _ _ (hs.put t (n+p.2)) (wet.put t _) (Dp _ _ _) _ (.inr rfl)
  · have hF:F p.1=none:=by
      cases hf:F p.1 with
      | none=>rfl
      | some f =>
        obtain ⟨rk,hr⟩:=fd.go.rk
        rcases hr _ f hf with ⟨_,w⟩ | ⟨_,p,a,fp,w,_⟩ <;> rw [w] at e <;> cases e
    have ep:N4 (E1 g r c D F gs) S p=(S.1,S.2+p.2):=by unfold N4;rw [N2 hF]
    rw [ep] at q
    rw [Ag,Cj,B9,wvr (v:=.int S.2) rfl,wvr (v:=.int p.2) rfl]
    exact q am x8 hs wet (Nat.le_succ _) K (.inl ⟨rfl,rfl⟩)
end
theorem Yc (L:List Val) (k:Key):upd (dry L) k 0=dry (L++[Aa k]):=by
  funext q
  unfold upd dry
  by_cases e:q=k
  · rw [if_pos e,if_pos (by rw [e];exact List.mem_append_right _ (.head _))]
  · rw [if_neg e]
    have:Aa q∈L++[Aa k]↔Aa q∈L:=by
      rw [List.mem_append,List.mem_singleton]
      exact ⟨fun h=>h.elim id fun h=>absurd (Dx h) e,.inl⟩
    by_cases m:Aa q∈L
    · rw [if_pos m,if_pos (this.mpr m)]
    · rw [if_neg m,if_neg fun h=>m (this.mp h)]
theorem Has.dry0:Has [] (dry []):=fun k=>by unfold dry;skip;rfl
inductive QInv (H:Hp) (lo la:Nat) (gs:List (Key × Val)) (D:List Val) (Γ0:Option Val -> Env') (L:Hp -> Prop):Nat -> Env' -> Hp -> Prop
  | mk {n:Nat} {K:Hp} (am:List (Key × Val)) (x:Option Val) (ex:Ext H K) (hL:L K) (ga:K[la]?=some (.dict am)) (hs:Has am (dry (D.take n))) (al:am.length <= n):QInv H lo la gs D Γ0 L n (Γ0 x) K
inductive PInv (H:Hp) (o lr lo la:Nat) (gs:List (Key × Val)) (xs:List (Key × Int)) (D:List Val) (A:List (Key × Int) -> (Key -> Option Int) × Int):Nat -> Env' -> Hp -> Prop
  | mk {n:Nat} {K:Hp} (am:List (Key × Val)) (x4 x6 x7 x8:Option Val) (ex:Ext H K) (go:K[lo]?=some (.dict gs)) (ga:K[la]?=some (.dict am)) (hs:Has am (A (xs.take n)).1) (wet:Wet D (A (xs.take n)).1) (al:am.length <= 1000+n) :
    PInv H o lr lo la gs xs D A n [some (.loc o),some (.loc lr),some (.loc lo),some (.loc la),x4,some (.int (A (xs.take n)).2),x6,x7,x8] K
noncomputable def Yd (g:List (List Val)) (r c:Nat) (D:List Val) (xs:List (Key × Int)) (H:Hp) (v:Val) (K:Hp):Prop :=
  ∃ F gs m,Fld g r c D F gs /\ v=.tup [.loc m,.int (Bz (E1 g r c D F gs) D xs).2] /\ H.length <= m /\ Ext H K /\ K[m]?=some (.list (Afp D (Bz (E1 g r c D F gs) D xs).1))
theorem Agv {r c:Nat} {es0:List (Key × Val)} {x:Val} (h:x∈(cells r c).filter (inD es0)):∃ k,x=Aa k:=by
  refine ex2 (Jg (List.mem_filter.mp h).1) fun i j zz=>Ad zz fun e _=>?_
  exact ⟨((i:Int),(j:Int)),e⟩
section
variable {T:Tab} {Φ:Funs} {Γ:Env'} {H K:Hp} {Q:Val -> Hp -> Prop} {E:Nat -> Hp -> Prop} {d:Nat} {QS:Env' -> Hp -> Prop} {R:Val -> Hp -> Prop} {ES:Nat -> Env' -> Hp -> Prop} {l r c m o lg b s ls:Nat} {g:List (List Val)} {es es0 gs:List (Key × Val)} {v:Val} {F:Key -> Option Int} {D:List Val}
theorem Gn {fs:List (Nat × Val)} (hr:r <= 30) (hc:c <= 30) (L:LandAt H o r c lg b s ls g es0) {i:Nat} (hi:Γ[i]?=some (some (.loc o))) (q:∀ m K,H.length <= m -> Ext H K -> K[m]?=some (.list ((cells r c).filter (inD es0))) -> Q (.loc m) K) :
    wpE T_11 (Af T_11 (d+2)) (.umeth (.var i) 4 .nil) Γ H Q E:=by
  refine Ah fun G kG=>?_
  refine ex1 L.inst fun fs zz=>Ad zz fun f0 _=>?_
  refine kG ?_
  rw [Cb,wvr hi]
  show Wp (C3 T_11 (.loc o) 4) H _ _
  rw [Fp f0 (show T_11.meth 7 4=some 27 from rfl)]
  refine (Ll hr hc L).then ?_
  intro w K zz
  refine ex1 zz fun m zz=>Cg zz fun zr1 hm ex gm=>?_;subst zr1
  exact q m K hm ex gm
theorem Z5 {lo la:Nat} {a:Nat} {Γ0:Option Val -> Env'} {it:ME} {L:Hp -> Prop} (j:Nat) (h0:∀ x v,(Γ0 x).set j (some v)=Γ0 (some v)) (h1:∀ v,(Γ0 (some v))[a]?=some (some (.loc la))) (h2:∀ v,(Γ0 (some v))[j]?=some (some v)) (hD:∀ x∈D,∃ k,x=Aa k) (dl:D.length <= 1000)
    (hit:∀ {Q:Val -> Hp -> Prop} {E:Nat -> Hp -> Prop},(∀ m K',Ext K K' -> K'[m]?=some (.list D) -> K.length <= m \/ m≠la -> Q (.loc m) K') -> wpE T Φ it (Γ0 none) K Q E) (ex:Ext H K) (hL:L K) (bl:H.length <= la) (Le:∀ K K',L K -> Ext K K' -> L K') (Ls:∀ K o,L K -> L (K.set la o)) (ga:K[la]?=some (.dict []))
    (q:∀ am x K',Ext H K' -> L K' -> K'[la]?=some (.dict am) -> Has am (dry D) -> am.length <= 1000 -> QS (Γ0 x) K') :
    wpS T Φ (.each j it (.cons (.setitem (.var a) (.var j) (.int 0)) .nil)) (Γ0 none) K QS R ES:=by
  refine C1 (hit fun m K1 e1 gm hm=>?_)
  rw [B0 (Bc gm)]
  have nm:la≠m:=by
    rcases hm with h | h
    · exact Nat.ne_of_lt (Nat.lt_of_lt_of_le (Bq ga) h)
    · exact Ne.symm h
  obtain ⟨I,hI⟩:=Dw (QInv H lo la [] D Γ0 fun K=>L K /\ K[m]?=some (.list D))
  refine B6 I ((hI _ _ _).mpr (.mk [] none (ex.trans e1) ⟨Le _ _ hL e1,gm⟩ (e1.get ga) Has.dry0 (Nat.le_refl _))) ?_ ?_ ?_
  · intro Γ K2 h
    refine Ah fun G kG=>?_
    obtain ⟨am,x,ex2,⟨hL2,_⟩,ga2,hs2,al2⟩:=(hI _ _ _).mp h
    refine kG ?_
    rw [List.take_length] at hs2
    exact q am x K2 ex2 hL2 ga2 hs2 (Nat.le_trans al2 dl)
  · intro k Γ K2 _ h
    obtain ⟨am,x,ex2,⟨_,g2⟩,_⟩:=(hI _ _ _).mp h
    exact Bk g2
  · intro n y Γ K2 hy h
    obtain ⟨am,x,ex2,⟨hL2,g2⟩,ga2,hs2,al2⟩:=(hI _ _ _).mp h
    obtain ⟨k,rfl⟩:=hD y (List.mem_of_getElem? hy)
    have lt:n < D.length:=(List.getElem?_eq_some_iff.mp hy).1
    refine ⟨_,rfl,?_⟩
    rw [h0,Ag,Be,A3,wvr (h1 _),wvr (h2 _)]
    show Wp (Ax (.loc la) (.tup [.int k.1,.int k.2]) _) K2 _ _
    rw [Fq ga2 (show am.length < 16777216 by exact Ale lt dl al2)]
    refine (hI _ _ _).mpr (.mk _ _ (ex2.set bl _) ⟨Ls _ _ hL2,Ao _ nm g2⟩ (Bb _ ga2) ?_ (Nat.le_trans (Dp _ _ _) (Nat.succ_le_succ al2)))
    rw [Cf hy,<- Yc]
    exact hs2.put k 0
end
section
variable {T:Tab} {Φ:Funs} {Γ:Env'} {H K:Hp} {Q:Val -> Hp -> Prop} {E:Nat -> Hp -> Prop} {d:Nat} {QS:Env' -> Hp -> Prop} {R:Val -> Hp -> Prop} {ES:Nat -> Env' -> Hp -> Prop} {l r c m o lg b s ls:Nat} {g:List (List Val)} {es es0 gs:List (Key × Val)} {v:Val} {F:Key -> Option Int} {D:List Val}
theorem Acz {lr lo la:Nat} {xs:List (Key × Int)} {x4:Option Val} {am:List (Key × Val)} (fd:Fld g r c D F gs) (hrc:r * c <= 132) (xl:xs.length <= 100) (hl:H[lr]?=some (.list (xs.map rv))) (ne:lo≠la) (bl:H.length <= la) (ex:Ext H K) (go:K[lo]?=some (.dict gs)) (ga:K[la]?=some (.dict am)) (hs:Has am (dry D)) (al:am.length <= 1000)
    (q:∀ am' x4 x6 x7 x8 K',Ext H K' -> K'[la]?=some (.dict am') -> Has am' (Bz (E1 g r c D F gs) D xs).1 -> Wet D (Bz (E1 g r c D F gs) D xs).1 -> QS [some (.loc o),some (.loc lr),some (.loc lo),some (.loc la),x4,some (.int (Bz (E1 g r c D F gs) D xs).2),x6,x7,x8] K') :
    wpS T Φ (.eachPair 6 7 (.var 1) (.cons (.ite (.cmp .isin (.var 6) (.var 2)) (.cons (.assign 8 (.var 6)) (.cons (.loop (.cmp .isNot (.sub (.var 2) (.var 8)) .none) (.cons (.assign 8 (.sub (.var 2) (.var 8))) .nil)) (.cons (.setitem (.var 3) (.var 8) (.bin .add (.sub (.var 3) (.var 8)) (.var 7))) .nil))) (.cons (.assign 5 (.bin .add (.var 5) (.var 7))) .nil)) .nil))
      [some (.loc o),some (.loc lr),some (.loc lo),some (.loc la),x4,some (.int 0),none,none,none] K QS R ES:=by
  refine Ni ?_
  rw [wvr (v:=.loc lr) rfl,B0 (O0 (ex.get hl))]
  obtain ⟨I,hI⟩:=Dw (PInv H o lr lo la gs xs D (Bz (E1 g r c D F gs) D))
  have len:(xs.map rv).length=xs.length:=List.length_map ..
  refine B6 I ((hI _ _ _).mpr (.mk am x4 none none none ex go ga hs (Wet.dry D) al)) ?_ ?_ ?_
  · intro Γ K2 h
    have h:I (xs.map rv).length Γ K2:=h
    rw [len] at h
    obtain ⟨am',y4,y6,y7,y8,ex2,go2,ga2,hs2,wet2,al2⟩:=(hI _ _ _).mp h
    rw [List.take_length] at hs2 wet2 ⊢
    exact q am' y4 y6 y7 y8 K2 ex2 ga2 hs2 wet2
  · intro k Γ K2 _ h
    obtain ⟨am',y4,y6,y7,y8,ex2,_⟩:=(hI _ _ _).mp h
    exact Bk (ex2.get hl)
  · intro n y Γ K2 hy h
    obtain ⟨am',y4,y6,y7,y8,ex2,go2,ga2,hs2,wet2,al2⟩:=(hI _ _ _).mp h
    have hy:(xs.map rv)[n]?=some y:=hy
    rw [List.getElem?_map] at hy
    refine ex1 (Option.map_eq_some_iff.mp hy) fun p zz=>Ad zz fun hp hr0=>?_;refine hr0▸?_
    have lt:=(List.getElem?_eq_some_iff.mp hp).1
    refine ⟨_,rfl,?_⟩
    refine Afe (p:=p) fd hrc ne go2 ga2 hs2 wet2 (by exact Aho lt len al2 xl) fun am3 x8 hs3 wet3 al3 K3 hK=>?_
    rw [<- Kq hp] at hs3 wet3 ⊢
    rcases hK with ⟨rfl,rfl⟩ | rfl
    · exact (hI _ _ _).mpr (.mk _ _ _ _ _ ex2 go2 ga2 hs3 wet3 (by exact Alf al2))
    · exact (hI _ _ _).mpr (.mk _ _ _ _ _ (ex2.set bl _) (Ao _ (Ne.symm ne) go2) (Bb _ ga2) hs3 wet3 (by exact Ahp al2 al3))
theorem Vr {S:Key -> Option Int} {k:Key} {n:Int} (h:S k=some n):Val.tup [Aa k,.int (((Ef (Aa k)).bind S).getD 0)]=.tup [Aa k,.int n]:=by
  show Val.tup [Aa k,.int ((S k).getD 0)]=_
  rw [h];rfl
theorem Qf (hr:r <= 30) (hc:c <= 30) (p:Val -> Bool):((cells r c).filter p).length <= 900:=by
  have:=List.length_filter_le p (cells r c)
  rw [Gg] at this
  exact Nat.le_trans this (Nat.mul_le_mul hr hc)
theorem Lo {lr:Nat} {xs:List (Key × Int)} (og:OkG g r c) (hr:r <= 30) (hc:c <= 30) (hrc:r * c <= 132) (LA:LandAt H o r c lg b s ls g es0) (hd:∀ k,Aa k∈(cells r c).filter (inD es0) -> ∃ a,hgt g r c k=some a) (hl:H[lr]?=some (.list (xs.map rv))) (ok:∀ p∈xs,OkR r c p) (xl:xs.length <= 100) :
    Wp (Af T_11 (d+6) 36 [.loc o,.loc lr]) H (Yd g r c ((cells r c).filter (inD es0)) xs H) NoE:=by
  refine Ah fun G kG=>?_
  refine ex1 LA.inst fun fs zz=>Cg zz fun f0 f1 f2 _=>?_
  refine kG ?_
  have Dl:=Qf hr hc (inD es0)
  have DD:∀ x∈(cells r c).filter (inD es0),∃ k,x=Aa k:=fun x h=>Agv h
  rw [Ap (g:=Uu) rfl rfl]
  show wpSs T_11 (Af T_11 (d+5)) _ [some (.loc o),some (.loc lr),none,none,none,none,none,none,none] H _ _ _
  have none':D7 r c (xs.map rv)=none:=Vp fun v hv=>by
    refine ex1 (List.mem_map.mp hv) fun p zz=>Ad zz fun hp zr2=>?_;subst zr2
    exact Afc (ok p hp)
  refine Db (fun K=>K=H) ?_ ?_
  · skip
    refine (I5 (d:=d+2) f0 f1 f2 hl fun v hv=>?_).mono (fun v K h=>h.2.1) fun e K h=>?_
    · refine ex1 (List.mem_map.mp hv) fun p zz=>Ad zz fun _ zr2=>?_;subst zr2
      exact KR.rv p
    · rw [none'] at h;cases h.2
  intro K0 e0
  rw [e0]
  clear e0 K0
  refine Ak (fun u K=>∃ lo gs F,u=.loc lo /\ Ext H K /\ K[lo]?=some (.dict gs) /\ Fld g r c ((cells r c).filter (inD es0)) F gs) ?_ ?_
  · refine (Nw og hr hc hrc LA hd).then ?_
    intro u K zz
    refine ex5 zz fun lf lo es gs F zz=>Agx zz fun zr5 ex _ gl _ lv go an=>?_;subst zr5
    exact ⟨lo,gs,F,rfl,ex,gl,lv,go,an⟩
  intro u K zz
  refine ex3 zz fun lo gs F zz=>Cg zz fun zr3 ex gl fd=>?_;subst zr3
  refine Ak (fun u K'=>u=.loc K.length /\ K'=K++[.dict []]) ⟨rfl,rfl⟩ ?_
  rintro u K' ⟨rfl,e⟩
  rw [e]
  clear e K'
  have ne:lo≠K.length:=Nat.ne_of_lt (Bq gl)
  refine Z5 (lo:=lo) (la:=K.length) (a:=3) (D:=(cells r c).filter (inD es0)) (Γ0:=fun x=>[some (.loc o),some (.loc lr),some (.loc lo),some (.loc K.length),x,none,none,none,none]) (L:=fun K=>K[lo]?=some (.dict gs)) 4 (fun _ _=>rfl) (fun _=>rfl) (fun _=>rfl) DD (Nat.le_trans Dl (by decide))
    (fun {Q E} k=>Gn (d:=d+3) (fs:=fs) hr hc ((LA.ext ex).ext (Ext.new (Ext.refl _) _)) rfl fun m K' hm e gm=>k m K' e gm (.inl hm)) (ex.new _) ((Ext.new (Ext.refl K) _).get gl) ex.len (fun _ _ h e=>e.get h) (fun _ _ h=>Ao _ (Ne.symm ne) h) (Aj _ _) (fun am x4 K2 ex2 go2 ga2 hs2 al2=>?_)
  refine Acz fd hrc xl hl ne ex.len ex2 go2 ga2 hs2 al2 fun am' y4 y6 y7 y8 K3 ex3 ga3 hs3 wet3=>?_
  refine Mp (fun v=>.tup [v,.int (((Ef v).bind (Bz (E1 g r c ((cells r c).filter (inD es0)) F gs) ((cells r c).filter (inD es0)) xs).1).getD 0)]) (P:=fun v K4=>∃ m,v=.loc m /\ Ext K3 K4 /\ K4[m]?=some (.list ((cells r c).filter (inD es0)))) (Gn (d:=d+3) (fs:=fs) hr hc (LA.ext ex3) rfl fun m K' hm e gm=>⟨m,rfl,e,gm⟩) ?_
  intro v K4 zz
  refine ex1 zz fun m zz=>Av zz fun zr1 ex4 gm=>?_;subst zr1
  refine ⟨_,_,Bc gm,Bk gm,Nat.lt_of_le_of_lt Dl (by decide),fun x hx=>?_,?_⟩
  · obtain ⟨k,rfl⟩:=DD x hx
    obtain ⟨n,hn⟩:=wet3 k hx
    have hg:D5 am' k=some (.int n):=by rw [hs3 k,hn];rfl
    rw [Dd,wcv (v:=Aa k) rfl,Al,wsv (v:=.loc K.length) (w:=Aa k) rfl rfl]
    show Wp (C5 (.loc K.length) (.tup [.int k.1,.int k.2])) K4 _ _
    rw [Dm (ex4.get ga3) hg]
    exact ⟨(Vr hn).symm,rfl⟩
  · show wpEs T_11 (Af T_11 (d+5)) (.cons (.var 5) .nil) [some (.loc o),some (.loc lr),some (.loc lo),some (.loc K.length),y4,some (.int (Bz (E1 g r c ((cells r c).filter (inD es0)) F gs) ((cells r c).filter (inD es0)) xs).2),y6,y7,y8] _ _ _
    rw [wcv (v:=.int _) rfl]
    exact ⟨F,gs,K4.length,fd,rfl,(ex3.trans ex4).len,(ex3.trans ex4).new _,Aj _ _⟩
theorem Ru {lr e:Nat} {vs:List Val} (LA:LandAt H o r c lg b s ls g es0) (hl:H[lr]?=some (.list vs)) (kv:∀ v∈vs,KR H v) (he:D7 r c vs=some e) :
    Wp (Af T_11 (d+4) 36 [.loc o,.loc lr]) H (fun _ _=>False) (fun e' K=>e'=e /\ K=H):=by
  refine Ah fun G kG=>?_
  refine ex1 LA.inst fun fs zz=>Cg zz fun f0 f1 f2 _=>?_
  refine kG ?_
  rw [Ap (g:=Uu) rfl rfl]
  show wpSs T_11 (Af T_11 (d+3)) _ [some (.loc o),some (.loc lr),none,none,none,none,none,none,none] H _ _ _
  refine (I5 (d:=d) f0 f1 f2 hl kv).mono (fun v K h=>?_) fun e' K h=>?_
  · rw [he] at h;cases h.2.2
  · rw [he] at h;cases h.2;exact ⟨rfl,h.1⟩
end
section
variable {T:Tab} {Φ:Funs} {Γ:Env'} {H K:Hp} {Q:Val -> Hp -> Prop} {E:Nat -> Hp -> Prop} {d:Nat} {QS:Env' -> Hp -> Prop} {R:Val -> Hp -> Prop} {ES:Nat -> Env' -> Hp -> Prop} {l r c m o lg b s ls:Nat} {g:List (List Val)} {es es0 gs:List (Key × Val)} {v:Val} {F:Key -> Option Int} {D:List Val}
theorem Vs (hS:OkS r c) (og:OkG g r c) (hrc:r * c <= 132) (LA:LandAt H o r c lg b s ls g es0) (hd:∀ k,Aa k∈(cells r c).filter (inD es0) -> ∃ a,hgt g r c k=some a) :
    Wp (Af T_11 (d+7) 37 [.loc o]) H (fun _ K=>Ext H K) NoE:=by
  unfold OkS at hS
  rw [Ap (g:=Zr) rfl rfl]
  show wpSs T_11 (Af T_11 (d+6)) _ [some (.loc o)] H _ _ _
  refine Db (fun K=>Ext H K) ?_ ?_
  · skip
    have e1:Ext H (H++[.list [rv ((0,0),1)]]):=⟨_,rfl⟩
    have gl:(H++[HObj.list [rv ((0,0),1)]])[H.length]?=some (.list ([((0,0),1)].map rv)):=Aj _ _
    refine (Lo (d:=d) (xs:=[((0,0),1)]) og hS.2.1 hS.2.2.2 hrc (LA.ext e1) hd gl ?_ (by decide)).then ?_
    · intro p hp
      rw [List.mem_singleton.mp hp]
      exact ⟨decide_eq_true (show 0 <= (0:Int) /\ (0:Int) < r /\ 0 <= (0:Int) /\ (0:Int) < c by exact Ahq hS),by decide,by decide⟩
    · intro v K zz
      refine ex3 zz fun F gs m zz=>Fc zz fun _ zr4 hm ex gm=>?_;subst zr4
      show Ea (E2 .clear (.loc m) K) _
      rw [Gk gm]
      exact Jf gm ((e1.trans ex).set (Nat.le_trans e1.len hm) _)
  · intro K ex
    refine Gn (d:=d+4) (fs:=[]) hS.2.1 hS.2.2.2 (LA.ext ex) rfl fun m K' hm e gm=>?_
    rw [Gk gm]
    exact Jf gm ((ex.trans e).set (Nat.le_trans ex.len hm) _)
theorem Kr {i:Nat} {ss:MSs} (hi:Γ[i]?=some (some (.loc o))) (hS:OkS r c) (og:OkG g r c) (hrc:r * c <= 132) (LA:LandAt H o r c lg b s ls g es0) (hd:∀ k,Aa k∈(cells r c).filter (inD es0) -> ∃ a,hgt g r c k=some a)
    (q:∀ K,Ext H K -> wpSs T_11 (Af T_11 (d+7)) ss Γ K QS R ES):wpSs T_11 (Af T_11 (d+7)) (.cons (.expr (.call 37 (.cons (.var i) .nil))) ss) Γ H QS R ES:=by
  refine Db (fun K=>Ext H K) ?_ q
  rw [Ay,wcv hi]
  exact Vs hS og hrc LA hd
theorem Qg (k:Key):¬ Aa k∈(cells r c).filter (inD []):=fun h=>by cases (List.mem_filter.mp h).2
theorem Ye {x:Val} (hS:OkS r c) (LA:LandAt H o r c lg b s ls g [((0,0),x)]) :
    Wp (Af T_11 (d+4) 41 [.loc o,.tup [.int 0,.int 0]]) H (fun v K=>K=H.set ls (.dict [])) NoE:=by
  unfold OkS at hS
  refine Ah fun G kG=>?_
  refine ex1 LA.inst fun fs zz=>Fc zz fun h0 h1 h2 h3 h4=>?_
  refine kG ?_
  rw [Ap (g:=Zv) rfl rfl]
  refine Db (fun H'=>H'=H) (Ji (i:=0) (j:=0) (P:=fun K=>K=H) h0 (Jh (by exact Adh hS) (by exact Ahr hS) LA) rfl rfl rfl) ?_
  intro K e
  rw [e]
  clear e K
  rw [Ag,Bd,A4,wvr (v:=.tup [.int 0,.int 0]) rfl,wat rfl h0 h4,Ed LA.sinks]
  show wpSs T_11 _ _ _ H _ _ _
  rw [Bv,Ag,Ev,Kw,wat rfl h0 h4,B0 (show E2 .dpop (.loc ls) H=some () from if_pos (Sb LA.sinks)),Al,Az]
  refine Wp.of_eq (a:=x) (H':=H.set ls (.dict [])) ?_ rfl
  unfold bmV
  simp only [LA.sinks]
  rfl
theorem Rv {w:List Val} {h:Val} (hS:OkS r c) (og:OkG g r c) (LA:LandAt H o r c lg b s ls g []) (hw:g[0]?=some w) (hh:HV h) :
    Wp (Af T_11 (d+4) 40 [.loc o,.tup [.int 0,.int 0],h]) H (fun v K=>K=H.set (b+s * 0) (.list (w.set 0 h))) NoE:=by
  unfold OkS at hS
  refine ex1 LA.inst fun fs zz=>Fc zz fun h0 h1 h2 h3 h4=>?_
  have rr:=LA.grid.row 0 w hw
  have lw:=(og.row 0 w hw).1
  have hne:o≠b+s * 0:=Br h0 rr (fun e=>nomatch e)
  have hns:ls≠b+s * 0:=Br LA.sinks rr (fun e=>nomatch e)
  rw [Ap (g:=Zu) rfl rfl]
  refine Db (fun H'=>H'=H) (Ji (i:=0) (j:=0) (P:=fun K=>K=H) h0 (Jh (by exact Adh hS) (by exact Aft hS lw) LA) rfl rfl rfl) ?_
  intro K e
  rw [e]
  clear e K
  refine E9 (fun K=>K=H) ?_ ?_
  · rw [Ca,Ay,wcv (v:=h) rfl,A5,Lj hh]
    exact ⟨rfl,rfl⟩
  intro K e
  rw [e]
  clear e K
  rw [Ag,Be,wvr (v:=h) rfl,A8,wat rfl h0 h3]
  show Wp (C5 (.loc lg) (.int ((0:Nat):Int))) H _ _
  rw [De LA.grid.top (LA.grid.item (List.getElem?_eq_some_iff.mp hw).1)]
  show Wp (Ax (.loc (b+s * 0)) (.int 0) h) H _ _
  rw [Kh rr (by decide) (by exact Ahs hS lw)]
  have k0:(H.set (b+s * 0) (.list (w.set (0:Int).toNat h)))[o]?=some (.inst 7 fs):=Ao _ (Ne.symm hne) h0
  have ks:(H.set (b+s * 0) (.list (w.set (0:Int).toNat h)))[ls]?=some (.dict []):=Ao _ (Ne.symm hns) LA.sinks
  rw [Ag,Bd,Fs,A4,wvr (v:=h) rfl,El]
  rcases hh with rfl | ⟨i,rfl,_⟩
  · show wpE T_11 _ _ _ _ _ _
    rw [A4,wvr (v:=.tup [.int 0,.int 0]) rfl,wat rfl k0 h4,U4 ks]
    exact rfl
  · exact rfl
end
theorem GAt.put {H:Hp} {l b s:Nat} {g:List (List Val)} (G:GAt H l b s g) (hs:1 <= s) {a:Nat} (hl:b+s * a≠l) (ha:a < g.length) (w:List Val):GAt (H.set (b+s * a) (.list w)) l b s (g.set a w):=by
  refine ⟨?_,fun i r h=>?_⟩
  · rw [List.length_set]
    exact Ao _ hl G.top
  · by_cases c:i=a
    · subst c
      rw [List.getElem?_set_self ha] at h
      cases h
      exact Bb _ (G.row i _ (List.getElem?_eq_getElem ha))
    · rw [List.getElem?_set_ne (fun e=>c e.symm)] at h
      refine Ao _ (fun e=>c ?_) (G.row i r h)
      have e:s * a=s * i:=by exact Alg e
      exact (Nat.eq_of_mul_eq_mul_left (by exact Alh hs) e).symm
theorem LandAt.put {H:Hp} {o r c lg b ls:Nat} {g:List (List Val)} {es:List (Key × Val)} (L:LandAt H o r c lg b 1 ls g es) {w:List Val} (hw:g[0]?=some w) (hl:b+1 * 0≠lg) (w':List Val):LandAt (H.set (b+1 * 0) (.list w')) o r c lg b 1 ls (g.set 0 w') es:=by
  refine ex1 L.inst fun fs zz=>Ad zz fun h0 hf=>?_
  have hr:=L.grid.row 0 w hw
  exact ⟨⟨fs,Ao _ (Br hr h0 fun e=>nomatch e) h0,hf⟩,L.grid.put (Nat.le_refl 1) hl (List.getElem?_eq_some_iff.mp hw).1 w',Ao _ (Br hr L.sinks fun e=>nomatch e) L.sinks⟩
theorem OkG.first {g:List (List Val)} {r c:Nat} (og:OkG g r c) {w:List Val} (hw:g[0]?=some w) {x:Val} (hx:HV x):OkG (g.set 0 (w.set 0 x)) r c:=by
  refine ⟨by rw [List.length_set];exact og.len,fun i u hu=>?_⟩
  cases i with
  | zero =>
    rw [List.getElem?_set_self (List.getElem?_eq_some_iff.mp hw).1] at hu
    cases hu
    obtain ⟨h1,h2⟩:=og.row 0 w hw
    refine ⟨by rw [List.length_set];exact h1,fun v hv=>?_⟩
    rcases List.mem_or_eq_of_mem_set hv with h | h
    · exact h2 v h
    · rw [h];exact hx
  | succ i =>
    rw [List.getElem?_set_ne (by exact Aht)] at hu
    exact og.row (i+1) u hu
theorem Mq {α:Type} {w:List α} {x y:α} (h:w[0]?=some x):(w.set 0 y).set 0 x=w:=by
  rw [List.set_set]
  refine List.ext_getElem? fun i=>?_
  cases i with
  | zero=>rw [List.getElem?_set_self (List.getElem?_eq_some_iff.mp h).1,h]
  | succ i=>rw [List.getElem?_set_ne (by exact Aht)]
section
variable {T:Tab} {Φ:Funs} {Γ:Env'} {H K:Hp} {Q:Val -> Hp -> Prop} {E:Nat -> Hp -> Prop} {d:Nat} {QS:Env' -> Hp -> Prop} {R:Val -> Hp -> Prop} {ES:Nat -> Env' -> Hp -> Prop} {l r c m o lg b s ls:Nat} {g:List (List Val)} {es es0 gs:List (Key × Val)} {v:Val} {F:Key -> Option Int} {D:List Val}
theorem Mr {i mm k n:Nat} {es:MEs} {P:Val -> Hp -> Prop} (LA:LandAt H o r c lg b s ls g es0) (hi:Γ[i]?=some (some (.loc o))) (hm:T_11.meth 7 mm=some k) {vs:List Val} (he:∀ {Q:List Val -> Hp -> Prop} {E:Nat -> Hp -> Prop},Q vs H -> wpEs T_11 (Af T_11 n) es Γ H Q E) (h:Wp (Af T_11 n k (.loc o :: vs)) H P NoE) :
    wpE T_11 (Af T_11 n) (.umeth (.var i) mm es) Γ H P NoE:=by
  refine ex1 LA.inst fun fs zz=>Ad zz fun f0 _=>?_
  rw [Cb,wvr hi]
  show Wp (C3 T_11 (.loc o) mm) H _ _
  rw [Fp f0 hm]
  exact he h
theorem Rw {ss:MSs} {x1:Val} (hS:OkS r c) (og:OkG g r c) (hrc:r * c <= 132) (G:GAt H l b s g)
    (q:∀ o lg b' ls K,Ext H K -> H.length <= ls -> LandAt K o r c lg b' 1 ls g [] -> ∀ x2,wpSs T_11 (Af T_11 (d+7)) ss [some (.loc l),some x1,some x2,some (.loc o),none] K QS R ES) :
    wpSs T_11 (Af T_11 (d+7)) (.cons (.assign 2 (.comp (.bf .list (.cons (.var 5) .nil)) (.var 0) .none)) (.cons (.setitem (.sub (.var 2) (.int 0)) (.int 0) (.int 7)) (.cons (.assign 3 (.new 7 (.cons (.var 2) .nil))) (.cons (.expr (.umeth (.var 3) 3 (.cons (.tup (.cons (.int 0) (.cons (.int 0) .nil))) .nil))) (.cons (.expr (.call 37 (.cons (.var 3) .nil))) (.cons (.expr (.umeth (.var 3) 12 (.cons (.tup (.cons (.int 0) (.cons (.int 0) .nil))) .nil))) (.cons (.expr (.call 37 (.cons (.var 3) .nil))) (.cons (.expr (.umeth (.var 3) 11 (.cons (.tup (.cons (.int 0) (.cons (.int 0) .nil))) (.cons (.sub (.sub (.var 0) (.int 0)) (.int 0)) .nil)))) (.cons (.expr (.call 37 (.cons (.var 3) .nil))) ss)))))))))
      [some (.loc l),some x1,none,none,none] H QS R ES:=by
  have hS':=hS
  unfold OkS at hS'
  obtain ⟨w,x,hw,hx,vx,lw,it,hb⟩:=Ah5 hS og G
  have og1:=og.first hw (x:=.int 7) (.inr ⟨7,rfl,by decide,by decide⟩)
  have gl:=og.len
  have hw1:(g.set 0 (w.set 0 (.int 7)))[0]?=some (w.set 0 (.int 7)):=List.getElem?_set_self (List.getElem?_eq_some_iff.mp hw).1
  have hx1:(w.set 0 (.int 7))[0]?=some (.int 7):=List.getElem?_set_self (List.getElem?_eq_some_iff.mp hx).1
  refine Ak (fun u K=>u=.loc (H.length+g.length) /\ Ext H K /\ GAt K (H.length+g.length) H.length 1 g) ?_ ?_
  · exact O2 (l:=l) (b:=b) (s:=s) (g:=g) rfl G (by rw [gl];show r < 16777216;exact Ag5 hS' gl) ⟨rfl,rfl⟩ fun K e GK _=>⟨rfl,e,GK⟩
  rintro u K1 ⟨rfl,e1,G1⟩
  show Wp (C5 (.loc (H.length+g.length)) (.int ((0:Nat):Int))) K1 _ _
  rw [De G1.top (G1.item (List.getElem?_eq_some_iff.mp hw).1),A3,Kh (G1.row 0 w hw) (by decide) (by exact Ahs hS' lw)]
  show wpSs T_11 _ _ _ (K1.set (H.length+1 * 0) (.list (w.set 0 (.int 7)))) _ _ _
  have G2:=G1.put (Nat.le_refl 1) (show H.length+1 * 0≠H.length+g.length by exact Ali hS' gl) (List.getElem?_eq_some_iff.mp hw).1 (w.set 0 (.int 7))
  have e2:Ext H (K1.set (H.length+1 * 0) (.list (w.set 0 (.int 7)))):=e1.set (Nat.le_add_right _ _) _
  generalize K1.set (H.length+1 * 0) (.list (w.set 0 (.int 7)))=K2 at G2 e2
  clear G1 e1
  refine Ak (fun u K=>∃ o lg b' ls,u=.loc o /\ Ext H K /\ LandAt K o r c lg b' 1 ls (g.set 0 (w.set 0 (.int 7))) [] /\ H.length <= ls /\ H.length <= b' /\ lg=b'+r) ?_ ?_
  · skip
    refine (Acb (d:=d+4) hS og1 G2).then ?_
    intro u K3 zz
    obtain ⟨rfl,e3,lg,b',ls,L,h1,h2,h3⟩:=zz
    exact ⟨_,lg,b',ls,rfl,e2.trans e3,L,Nat.le_trans e2.len (Nat.le_of_lt h3),Nat.le_trans e2.len (Nat.le_of_lt h1),h2⟩
  clear G2 e2
  intro u K3 zz
  obtain ⟨o,lg,b',ls,rfl,e3,L3,bl,bb,hlg⟩:=zz
  have hne:b'+1 * 0≠lg:=by exact Alj hS' hlg gl
  refine Db (fun K=>Ext H K /\ LandAt K o r c lg b' 1 ls (g.set 0 (w.set 0 (.int 7))) [((0,0),.bool true)]) ?_ ?_
  · refine Mr L3 rfl (show T_11.meth 7 3=some 26 from rfl) (vs:=[.tup [.int 0,.int 0]]) (fun h=>h) ?_
    refine (Lm (d:=d+3) (i:=0) (j:=0) (by exact Ahu hS' hlg gl) (by exact Aft hS' lw) L3 hw1 hx1 (by decide)).then ?_
    rintro v K ⟨_,e⟩
    rw [e]
    exact ⟨e3.set bl _,L3.sink⟩
  clear e3 L3 K3
  rintro K4 ⟨e4,L4⟩
  have hd7:∀ k,Aa k∈(cells r c).filter (inD [((0,0),.bool true)]) -> ∃ a,hgt (g.set 0 (w.set 0 (.int 7))) r c k=some a:=fun k hk=>by
    have h1:(D5 [(((0:Int),(0:Int)),Val.bool true)] k).isSome=true:=(List.mem_filter.mp hk).2
    have e:k=(0,0):=by
      by_cases q:k=(0,0)
      · exact q
      · have:(k == ((0:Int),(0:Int)))=false:=by simpa using q
        rw [show D5 [(((0:Int),(0:Int)),Val.bool true)] k=none by unfold D5;rw [List.lookup_cons,this];rfl] at h1
        exact nomatch h1
    refine Eq.symm e▸?_
    obtain ⟨u,y,hu,hy,hc⟩:=I4 (i:=0) (j:=0) og1 (by exact Ahu hS' hlg gl) (by exact Aft hS' lw)
    rw [hw1] at hu
    cases hu
    rw [hx1] at hy
    cases hy
    rcases hc with ⟨h,_⟩ | ⟨n,_,_,h⟩
    · cases h
    · exact ⟨n,h⟩
  refine Kr rfl hS og1 hrc L4 hd7 fun K5 e5=>?_
  refine Db (fun K=>Ext H K /\ LandAt K o r c lg b' 1 ls (g.set 0 (w.set 0 (.int 7))) []) ?_ ?_
  · refine Mr (L4.ext e5) rfl (show T_11.meth 7 12=some 41 from rfl) (vs:=[.tup [.int 0,.int 0]]) (fun h=>h) ?_
    refine (Ye (d:=d+3) hS (L4.ext e5)).then ?_
    intro v K e
    rw [e]
    exact ⟨(e4.trans e5).set bl _,(L4.ext e5).sink⟩
  clear e4 L4 hd7 e5 K5 K4
  rintro K6 ⟨e6,L6⟩
  refine Kr rfl hS og1 hrc L6 (fun k h=>(Qg k h).elim) fun K7 e7=>?_
  refine Db (fun K=>Ext H K /\ LandAt K o r c lg b' 1 ls g []) ?_ ?_
  · refine Mr (L6.ext e7) rfl (show T_11.meth 7 11=some 40 from rfl) (vs:=[.tup [.int 0,.int 0],x]) (fun {Q E} h=>?_) ?_
    · skip
      show Wp (C5 (.loc l) (.int ((0:Nat):Int))) K7 _ _
      rw [De ((e6.trans e7).get G.top) it]
      show Wp (C5 (.loc b) (.int ((0:Nat):Int))) K7 _ _
      rw [De ((e6.trans e7).get hb) hx]
      exact h
    · refine (Rv (d:=d+3) hS og1 (L6.ext e7) hw1 vx).then ?_
      intro v K e
      rw [e]
      have L8:=(L6.ext e7).put hw1 hne ((w.set 0 (.int 7)).set 0 x)
      rw [Mq hx,Mq hw] at L8
      rw [Mq hx]
      exact ⟨(e6.trans e7).set (Nat.le_trans bb (Nat.le_add_right _ _)) _,L8⟩
  clear e6 L6 e7 K7 K6
  rintro K8 ⟨e8,L8⟩
  refine Kr rfl hS og hrc L8 (fun k h=>(Qg k h).elim) fun K9 e9=>?_
  exact q o lg b' ls K9 (e8.trans e9) bl (L8.ext e9) _
theorem Yg {ks:List Key} (hS:OkS r c) (og:OkG g r c) (hrc:r * c <= 132) (G:GAt H l b s g) (hm:H[m]?=some (.list (ks.map Aa))) (hk:∀ k∈ks,∃ a,hgt g r c k=some a) (kl:ks.length < 1000) :
    Wp (Af T_11 (d+8) 15 [.loc l,.loc m]) H (fun v H'=>∃ o lg b' ls es,v=.loc o /\ Ext H H' /\ LandAt H' o r c lg b' 1 ls g es /\ ∀ k,inD es (Aa k)=true↔k∈ks) NoE:=by
  rw [Ap (g:=Zg) rfl rfl]
  refine Rw (d:=d) hS og hrc G fun o lg b' ls K e h4 L x2=>?_
  clear G hS
  obtain ⟨I,hI⟩:=Dw (fun (n:Nat) (Γ:Env') (K:Hp)=>∃ es a,Γ=[some (.loc l),some (.loc m),some x2,some (.loc o),a] /\ Ext H K /\ LandAt K o r c lg b' 1 ls g es /\ (∀ k,inD es (Aa k)=true↔k∈ks.take n) /\ es.length <= n)
  refine Ce (I ks.length) ?_ ?_
  · apply C1
    show Ea (Cr (.loc m) K) _
    rw [B0 (Bc (e.get hm))]
    show WpS (Ff (chk (some m) (ks.map Aa)) (N5 4) _ (ks.map Aa) _ _) _ _ _
    refine B6 I ((hI _ _ _).mpr ⟨[],none,rfl,e,L,(fun k=>⟨(fun h=>nomatch h),(fun h=>nomatch h)⟩),Nat.le_refl _⟩) ?_ ?_ ?_
    · intro Γ K h
      rw [List.length_map] at h;exact h
    · intro n Γ K _ h
      refine Ah fun G kG=>?_
      refine ex2 ((hI _ _ _).mp h) fun es a zz=>Av zz fun _ eK _=>?_
      refine kG ?_
      exact Bk (eK.get hm)
    · clear L e
      intro n z Γ K hz h
      refine Ah fun G kG=>?_
      refine ex2 ((hI _ _ _).mp h) fun es a zz=>Fc zz fun zr2 eK LK hes el=>?_;subst zr2
      refine ex1 (Mn hz) fun q zz=>Ad zz fun hq zr2=>?_;subst zr2
      have ln:=(List.getElem?_eq_some_iff.mp hq).1
      obtain ⟨y,hy⟩:=hk q (List.mem_of_getElem? hq)
      refine ex2 (Hc (Ki hy)) fun i j zz=>Av zz fun zr2 hi hj=>?_;subst zr2
      refine ex2 (I4 og hi hj) fun w x zz=>Av zz fun hw hx hcase=>?_
      refine kG ?_
      rcases hcase with ⟨_,hn⟩ | ⟨a',rfl,ha0,ha'⟩
      · rw [hn] at hy;exact nomatch hy
      refine ⟨_,rfl,?_⟩
      refine Db _ (Mr LK rfl (show T_11.meth 7 3=some 26 from rfl) (vs:=[.tup [.int (i:Int),.int (j:Int)]]) (fun h=>h) ((Lm (d:=d+3) hi hj LK hw hx (show es.length < 16777216 by exact Alk kl ln el)).then fun v K e=>e.2)) ?_
      intro K2 e2
      rw [e2]
      refine (hI _ _ _).mpr ⟨_,_,rfl,eK.set h4 _,LK.sink,fun k=>?_,Nat.le_trans (Dp _ _ _) (Nat.succ_le_succ el)⟩
      rw [Acp,hes,Eb hq]
  intro Γ K h
  refine Ah fun G kG=>?_
  refine ex2 ((hI _ _ _).mp h) fun es a zz=>Fc zz fun zr2 eK LK hes _=>?_;subst zr2
  refine kG ?_
  rw [List.take_length] at hes
  exact ⟨o,lg,b',ls,es,rfl,eK,LK,hes⟩
end
inductive NR (H:Hp) (ns:List Int) (l r c rl zl:Nat) (zs:List Val):Nat -> Env' -> Hp -> Prop
  | mk {n:Nat} {K:Hp} (xs:List (Key × Int)) (x3 x4:Option Val) (ex:Ext H K) (gz:K[zl]?=some (.list zs)) (gr:K[rl]?=some (.list (xs.map rv))) (ok:∀ p∈xs,OkR r c p) (xl:xs.length <= n):NR H ns l r c rl zl zs n [some (.script ns),some (.loc l),some (.loc rl),x3,x4] K
section
variable {T:Tab} {Φ:Funs} {Γ:Env'} {H K:Hp} {Q:Val -> Hp -> Prop} {E:Nat -> Hp -> Prop} {d:Nat} {QS:Env' -> Hp -> Prop} {R:Val -> Hp -> Prop} {ES:Nat -> Env' -> Hp -> Prop} {l r c m o lg b s ls:Nat} {g:List (List Val)} {es es0 gs:List (Key × Val)} {v:Val} {F:Key -> Option Int} {D:List Val}
theorem Ib {x y:Nat} {xs ys:List Val} (h1:H[x]?=some (.list xs)) (h2:H[y]?=some (.list ys)) (hl:xs.length+ys.length <= 1000) (q:Q (.loc H.length) (H++[.list (xs++ys)])):Ja .add (.loc x) (.loc y) H Q E:=by
  refine Wp.of_eq ?_ q
  show (match H[x]?,H[y]? with
    | some (.list xs),some (.list ys)=>if xs.length+ys.length <= lid then M.alloc (.list (xs++ys)) H else .bad
    | _,_=>.bad)=_
  rw [h1,h2]
  exact if_pos (show xs.length+ys.length <= 16777216 by exact Alm hl)
theorem neg_int (i:Int):wpE T Φ (.neg (.int i)) Γ H Q E=Q (.int (-i)) H:=rfl
theorem Jk (a:Int) (n:Nat) (h:0 < n):0 <= Int.fmod a n /\ Int.fmod a n < n:=by
  refine ex1 (Cm a n h) fun k zz=>Ad zz fun e lk=>?_
  rw [e];exact Aln lk
theorem Aff {ns:List Int} {rl:Nat} {n:Int} {xs:List (Key × Int)} {x4:Option Val} (hS:OkS r c) (og:OkG g r c) (G:GAt K l b s g) (gr:K[rl]?=some (.list (xs.map rv))) (xl:xs.length <= 100)
    (q:∀ p K',OkR r c p -> Ext K K' -> ∀ x4,QS [some (.script ns),some (.loc l),some (.loc rl),some (.int n),x4] (K'.set rl (.list ((xs++[p]).map rv)))) :
    wpSs T Φ (.cons (.assign 4 (.bin .mod (.bin .fdiv (.var 3) (.int 900)) (.int 10))) (.cons (.ite (.cmp .eq (.bin .mod (.var 3) (.int 4)) (.int 1)) (.cons (.assign 4 (.sub (.list (.cons (.int 1000000000) (.cons (.bin .mod (.bin .fdiv (.var 3) (.int 4)) (.int 1000000001)) .nil))) (.bin .mod (.bin .fdiv (.var 3) (.int 4)) (.int 2)))) .nil) .nil) (.cons (.expr (.bm (.var 2) .append (.cons (.tup (.cons (.tup (.cons (.bin .mod (.var 3) (.bf .len (.cons (.var 1) .nil))) (.cons (.bin .mod (.bin .fdiv (.var 3) (.int 30)) (.bf .len (.cons (.sub (.var 1) (.int 0)) .nil))) .nil))) (.cons (.var 4) .nil))) .nil))) .nil)))
      [some (.script ns),some (.loc l),some (.loc rl),some (.int n),x4] K QS R ES:=by
  have hS':=hS
  unfold OkS at hS'
  refine Ak (fun v K'=>K'=K /\ ∃ a:Int,v=.int a /\ 0 <= a /\ a <= 1000000000) ?_ ?_
  · skip
    refine ⟨by decide,?_⟩
    have:0 <= Int.fmod (Int.fdiv n 900) 10 /\ Int.fmod (Int.fdiv n 900) 10 < 10:=Jk (Int.fdiv n 900) 10 (by decide)
    exact ⟨by decide,rfl,_,rfl,by exact Alo this,by exact Alp this⟩
  intro v K0 zz
  obtain ⟨e,a,rfl,a0,a1⟩:=zz
  rw [e]
  clear e K0
  refine Ce (fun Γ K'=>∃ a,0 <= a /\ a <= 1000000000 /\ Ext K K' /\ Γ=[some (.script ns),some (.loc l),some (.loc rl),some (.int n),some (.int a)]) ?_ ?_
  · skip
    refine ⟨by decide,?_⟩
    refine A7 (fun _=>?_) fun _=>⟨a,a0,a1,Ext.refl _,rfl⟩
    refine ⟨by decide,?_⟩
    refine ⟨by decide,?_⟩
    have f1:0 <= Int.fmod (Int.fdiv n 4) 1000000001 /\ Int.fmod (Int.fdiv n 4) 1000000001 < 1000000001:=Jk (Int.fdiv n 4) 1000000001 (by decide)
    obtain ⟨k,hk,lk⟩:=Cm (Int.fdiv n 4) 2 (by decide)
    refine ⟨by decide,by decide,?_⟩
    rw [show Int.fmod (Int.fdiv n 4) 2=(k:Int) from hk]
    obtain ⟨y,hy⟩:∃ y,([1000000000,Int.fmod (Int.fdiv n 4) 1000000001]:List Int)[k]?=some y:=⟨_,List.getElem?_eq_getElem lk⟩
    have hy':0 <= y /\ y <= 1000000000:=by
      rcases List.mem_cons.mp (List.mem_of_getElem? hy) with rfl | h
      · decide
      · rw [List.mem_singleton.mp h];exact Alq f1
    refine Oz (Aj K _) (by exact Alr lk) ?_ ⟨y,hy'.1,hy'.2,⟨_,rfl⟩,rfl⟩
    show (([1000000000,Int.fmod (Int.fdiv n 4) 1000000001]:List Int).map Val.int)[k]?=_
    rw [List.getElem?_map,hy];rfl
  intro Γ K' zz
  obtain ⟨a,a0,a1,ex,rfl⟩:=zz
  have G':=G.ext ex
  have gr':=ex.get gr
  rw [Ag,Ev,Kw,wvr (v:=.loc rl) rfl,Fn gr',Bo,Al,Dd,Al,Dd,Al,B9,wvr (v:=.int n) rfl,wbf (v:=.loc l) rfl,A2 G'.top,Hz (l:=l) (b:=b) (s:=s) og]
  refine ⟨by exact Als hS',?_⟩
  refine ⟨by decide,?_⟩
  show Wp (C5 (.loc l) (.int 0)) K' (fun v H'=>Wp (bfV .len [v]) H' _ _) _
  rw [Jj hS og G']
  refine ⟨by exact Alt hS',?_⟩
  show Wp (bmV .append (.loc rl) [rv ((Int.fmod n r,Int.fmod (Int.fdiv n 30) c),a)]) K' _ _
  have f1:=Jk n r (by exact Adh hS')
  have f2:=Jk (Int.fdiv n 30) c (by exact Ahr hS')
  refine Hu gr' (by rw [List.length_map];show _ < 16777216;exact Alu xl) ?_
  have:=q ((Int.fmod n r,Int.fmod (Int.fdiv n 30) c),a) K' ⟨decide_eq_true (show 0 <= Int.fmod n r /\ Int.fmod n r < r /\ 0 <= Int.fmod (Int.fdiv n 30) c /\ Int.fmod (Int.fdiv n 30) c < c by exact Alv f1 f2),a0,a1⟩ ex (some (.int a))
  rw [List.map_append] at this
  exact this
theorem Yh (ns:List Int) (hS:OkS r c) (og:OkG g r c) (G:GAt H l b s g) :
    Wp (Af T_11 (d+2) 38 [.script ns,.loc l]) H (fun v K=>∃ lr,∃ xs:List (Key × Int),v=.loc lr /\ H.length <= lr /\ Ext H K /\ K[lr]?=some (.list (xs.map rv)) /\ (∀ p∈xs,OkR r c p) /\ xs.length <= 60) NoE:=by
  rw [Ap (g:=Zs) rfl rfl]
  show wpSs T_11 (Af T_11 (d+1)) _ [some (.script ns),some (.loc l),none,none,none] H _ _ _
  refine Ak (fun v K=>v=.loc H.length /\ K=H++[HObj.list []]) ⟨rfl,rfl⟩ ?_
  rintro v K ⟨rfl,e⟩
  rw [e]
  clear e K
  have e0:Ext H (H++[HObj.list []]):=⟨_,rfl⟩
  have zi:∀ x∈(ns.map Val.int).drop (ns.length - 12),∃ n,x=.int n:=fun x hx=>by
    refine ex1 (List.mem_map.mp (List.mem_of_mem_drop hx)) fun n zz=>Ad zz fun _ e=>?_
    exact ⟨n,e.symm⟩
  have zl:((ns.map Val.int).drop (ns.length - 12)).length <= 12:=by rw [List.length_drop,List.length_map];exact Alw
  refine Ce (fun Γ K=>∃ (xs:List (Key × Int)) (a b:Option Val),Γ=[some (.script ns),some (.loc l),some (.loc H.length),a,b] /\ Ext H K /\ K[H.length]?=some (.list (xs.map rv)) /\ (∀ p∈xs,OkR r c p) /\ xs.length <= 12) ?_ ?_
  · refine C1 ?_
    rw [Hs,wvr (v:=.script ns) rfl,A9,neg_int,Je]
    have sl:Gr (.script ns) (.int (-12)) .none (H++[HObj.list []])=.ok (.loc (H.length+1)) (H++[HObj.list []]++[.list ((ns.map Val.int).drop (ns.length - 12))]):=by
      show Res.ok (Val.loc (H++[HObj.list []]).length) (H++[HObj.list []]++[HObj.list ((ns.map Val.int).drop ((ns.map Val.int).length - 12))])=_
      rw [List.length_map,List.length_append];rfl
    refine Wp.of_eq sl ?_
    clear sl
    generalize (ns.map Val.int).drop (ns.length - 12)=zs at *
    have gz:(H++[HObj.list []]++[HObj.list zs])[H.length+1]?=some (.list zs):=by
      have:=Aj (H++[HObj.list []]) (.list zs)
      rw [List.length_append] at this
      exact this
    have e1:Ext (H++[HObj.list []]) (H++[HObj.list []]++[HObj.list zs]):=⟨_,rfl⟩
    rw [B0 (Bc gz)]
    obtain ⟨I,hI⟩:=Dw (NR H ns l r c H.length (H.length+1) zs)
    refine B6 I ((hI _ _ _).mpr (.mk [] none none (e0.trans e1) gz (e1.get (Aj H _)) (fun _ h=>nomatch h) (Nat.le_refl _))) ?_ ?_ ?_
    · intro Γ K h
      refine Ah fun G kG=>?_
      obtain ⟨xs,x3,x4,ex,_,gr,ok,xl⟩:=(hI _ _ _).mp h
      refine kG ?_
      exact ⟨xs,x3,x4,rfl,ex,gr,ok,Nat.le_trans xl zl⟩
    · intro k Γ K _ h
      refine Ah fun G kG=>?_
      obtain ⟨xs,x3,x4,ex,gz,gr,ok,xl⟩:=(hI _ _ _).mp h
      refine kG ?_
      exact Bk gz
    · intro k x Γ K hx h
      have lk:k < zs.length:=(List.getElem?_eq_some_iff.mp hx).1
      obtain ⟨xs,x3,x4,ex,gz,gr,ok,xl⟩:=(hI _ _ _).mp h
      obtain ⟨n,hr1⟩:=zi x (List.mem_of_getElem? hx);refine Eq.symm hr1▸?_
      refine ⟨_,rfl,?_⟩
      refine Aff hS og (G.ext ex) gr (by exact Alx lk zl xl) fun p K' hp e x4=>?_
      refine (hI _ _ _).mpr (.mk (xs++[p]) _ _ ((ex.trans e).set (Nat.le_refl _) _) (Ao _ (by exact Ahk) (e.get gz)) (Bb _ (e.get gr)) (fun y hy=>?_) (by rw [List.length_append];exact Nat.succ_le_succ xl))
      rcases List.mem_append.mp hy with h | h
      · exact ok y h
      · rw [List.mem_singleton.mp h];exact hp
  intro Γ K zz
  refine ex3 zz fun xs a b' zz=>Fc zz fun zr3 ex gr ok xl=>?_;subst zr3
  have ok5:∀ p∈xs++xs++xs++xs++xs,OkR r c p:=fun p hp=>by
    simp only [List.mem_append,or_self] at hp
    exact ok p hp
  have l1:(xs.map rv).length <= 12:=by rw [List.length_map];exact xl
  show Wp (Af T_11 (d+1) 8 [.script ns,.int ((0:Nat):Int)]) K _ _
  rw [Ew]
  refine ⟨by decide,by decide,?_⟩
  dsimp only
  refine A7 (fun _=>?_) fun _=>?_
  · have n1:∀ {K':Hp},Ext K K' -> K'[H.length]?=some (.list (xs.map rv)):=fun e=>e.get gr
    refine Ib gr gr (by exact Aly l1) ?_
    have e1:Ext K (K++[.list (xs.map rv++xs.map rv)]):=⟨_,rfl⟩
    refine Ib (Aj _ _) (n1 e1) (by rw [List.length_append];exact Alz l1) ?_
    have e2:=e1.new (.list (xs.map rv++xs.map rv++xs.map rv))
    refine Ib (Aj _ _) (n1 e2) (by rw [List.length_append,List.length_append];exact Al0 l1) ?_
    have e3:=e2.new (.list (xs.map rv++xs.map rv++xs.map rv++xs.map rv))
    refine Ib (Aj _ _) (n1 e3) (by rw [List.length_append,List.length_append,List.length_append];exact Al1 l1) ?_
    refine ⟨_,xs++xs++xs++xs++xs,rfl,(ex.trans e3).len,(ex.trans e3).new _,?_,ok5,by simp only [List.length_append];exact Al2 xl⟩
    rw [Aj]
    simp only [List.map_append]
  · exact ⟨H.length,xs,rfl,Nat.le_refl _,ex,gr,ok,Nat.le_trans xl (by decide)⟩
end
noncomputable def Ac0 {α β:Type} (P:α -> β -> Prop) (xs:List α) (ys:List β):Prop:=∀ (k:Nat) (v:α),xs[k]?=some v -> ∃ e,ys[k]?=some e /\ P v e
theorem a2n {α β:Type} {P:α -> β -> Prop}:Ac0 P [] []:=fun k v h=>nomatch h
theorem a2c {α β:Type} {P:α -> β -> Prop} {a:α} {b:β} {xs:List α} {ys:List β} (h:P a b) (t:Ac0 P xs ys):Ac0 P (a :: xs) (b :: ys):=fun k v e=>by
  cases k with
  | zero=>cases e;exact ⟨b,rfl,h⟩
  | succ k=>exact t k v e
theorem a2a {α β:Type} {P:α -> β -> Prop} {xs xs':List α} {ys ys':List β} (l:xs.length=ys.length) (h:Ac0 P xs ys) (t:Ac0 P xs' ys'):Ac0 P (xs++xs') (ys++ys'):=fun k v e=>by
  by_cases c:k < xs.length
  · rw [List.getElem?_append_left c] at e
    rw [List.getElem?_append_left (l▸c)]
    exact h k v e
  · rw [List.getElem?_append_right (Nat.not_lt.mp c)] at e
    rw [List.getElem?_append_right (l▸Nat.not_lt.mp c),<- l]
    exact t _ v e
noncomputable def Yi:List Nat:=[3,6,6,6,6,6,3,3,3,3,3,3,6,6,3,3]
section
variable {T:Tab} {Φ:Funs} {Γ:Env'} {H K:Hp} {Q:Val -> Hp -> Prop} {E:Nat -> Hp -> Prop} {d:Nat} {QS:Env' -> Hp -> Prop} {R:Val -> Hp -> Prop} {ES:Nat -> Env' -> Hp -> Prop} {l r c m o lg b s ls:Nat} {g:List (List Val)} {es es0 gs:List (Key × Val)} {v:Val} {F:Key -> Option Int} {D:List Val}
theorem rk3 {x y:Val} (h:Fv r c x=none):rk r c (.tup [x,y])=some 3:=by
  show (if (Fv r c x).isSome=true then _ else some 3)=_
  rw [h];rfl
theorem rk6 {k:Key} {y:Val} (h:inR r c k=true) (hy:H8 0 1000000000 y=false):rk r c (.tup [Aa k,y])=some 6:=by
  show (if (Fv r c (Aa k)).isSome=true then (if H8 0 1000000000 y=true then none else some 6) else some 3)=_
  rw [Gi h,hy];rfl
noncomputable def Odd (K:Hp) (r c:Nat) (v:Val) (e:Nat):Prop:=KR K v /\ rk r c v=some e
theorem Yj {x y:Val} (kx:Kn K x) (ky:Ae5 y) (h:Fv r c x=none):Odd K r c (.tup [x,y]) 3:=⟨.inr ⟨x,y,rfl,kx,ky⟩,rk3 h⟩
theorem Afg {y:Val} (hS:OkS r c) (ky:Ae5 y) (hy:H8 0 1000000000 y=false):Odd K r c (.tup [.tup [.int 0,.int 0],y]) 6:=by
  unfold OkS at hS
  exact ⟨.inr ⟨_,y,rfl,fc trivial (fc trivial fcn),ky⟩,rk6 (k:=(0,0)) (decide_eq_true (show 0 <= (0:Int) /\ (0:Int) < r /\ 0 <= (0:Int) /\ (0:Int) < c by exact Ahq hS)) hy⟩
theorem Ah9 (k:Kn K v) (np:Kl v):Odd K r c v 6:=⟨.inl ⟨k,np⟩,Z4 np⟩
theorem Jl {i j:Int} (h:¬ (0 <= i /\ i < r /\ 0 <= j /\ j < c)):Fv r c (.tup [.int i,.int j])=none:=if_neg (by unfold inR;rw [decide_eq_false h];exact Bool.false_ne_true)
noncomputable def Z6 (r:Nat):List Val:=[.tup [.tup [.int (r:Int),.int 0],.int 1],.tup [.tup [.int 0,.int 0],.int (-1)],.tup [.tup [.int 0,.int 0],.bool true],.tup [.tup [.int 0,.int 0],.int 1000000001]]
noncomputable def Adg (i j:Nat):List Val:=[.loc i,.tup [.tup [.int 0,.int 0],.int 1,.int 1],.tup [.tup [.int 0],.int 1],.tup [.tup [.int 0,.int (-1)],.int (-1)],.tup [.loc j,.int 1],.tup [.tup [.bool true,.int 0],.int 1]]
noncomputable def Yk (c:Nat):List Val:=[.tup [.tup [.str "0",.int 0],.int 1],.tup [.tup [.int 0,.none],.int 1],.tup [.tup [.int 0,.int 0],.str "1"],.tup [.tup [.int 0,.int 0],.none],.tup [.tup [.int (-1),.int 0],.int 1],.tup [.tup [.int 0,.int (c:Int)],.int 1]]
theorem Ac1 {i j:Nat} {xs ys:List Val} (hS:OkS r c) (hi:K[i]?=some (.list xs)) (hj:K[j]?=some (.list ys)):Ac0 (Odd K r c) (Z6 r++Adg i j++Yk c) Yi:=by
  have pp:Kn K (.tup [.int 0,.int 0]):=fc trivial (fc trivial fcn)
  refine a2a (ys:=[3,6,6,6,6,6,3,3,3,3]) rfl (a2a (ys:=[3,6,6,6]) rfl ?_ ?_) ?_
  · exact a2c (Yj (fc trivial (fc trivial fcn)) trivial (Jl (by exact Al3))) (a2c (Afg hS trivial rfl) (a2c (Afg hS trivial rfl) (a2c (Afg hS trivial rfl) a2n)))
  · exact a2c (Ah9 ⟨_,hi⟩ trivial) (a2c (Ah9 (fc trivial (fc trivial (fc trivial fcn))) trivial) (a2c (Yj (fc trivial fcn) trivial rfl) (a2c (Yj (fc trivial (fc trivial fcn)) trivial (Jl (by exact Al4))) (a2c (Yj ⟨_,hj⟩ trivial rfl) (a2c (Yj (fc trivial (fc trivial fcn)) trivial rfl) a2n)))))
  · exact a2c (Yj (fc trivial (fc trivial fcn)) trivial rfl) (a2c (Yj (fc trivial (fc trivial fcn)) trivial rfl) (a2c (Afg hS trivial rfl) (a2c (Afg hS trivial rfl) (a2c (Yj (fc trivial (fc trivial fcn)) trivial (Jl (by exact Al5))) (a2c (Yj (fc trivial (fc trivial fcn)) trivial (Jl (by exact Al6))) a2n)))))
theorem Vt (n:Int) (hS:OkS r c) (og:OkG g r c) (G:GAt H l b s g) :
    Wp (Af T_11 (d+1) 39 [.int n,.loc l]) H (fun v K=>Ext H K /\ ∃ k e,Int.fmod n 16=((k:Nat):Int) /\ Yi[k]?=some e /\ Odd K r c v e) NoE:=by
  rw [Ap (g:=Zt) rfl rfl]
  show wpSs T_11 (Af T_11 d) _ [some (.int n),some (.loc l),none] H _ _ _
  refine Ak (fun v K=>v=.loc H.length /\ K=H++[.list (Z6 r)]) ?_ ?_
  · rw [Ga,Al,Dd,Al,Dd,Al,wbf (v:=.loc l) rfl,A2 G.top,Hz (l:=l) (b:=b) (s:=s) og]
    exact ⟨rfl,rfl⟩
  rintro v K ⟨rfl,e⟩
  rw [e]
  clear e K
  refine Ak (fun v K=>∃ z i j xs ys,v=.loc z /\ Ext H K /\ K[z]?=some (.list (Z6 r++Adg i j)) /\ K[i]?=some (.list xs) /\ K[j]?=some (.list ys)) ?_ ?_
  · skip
    have e0:Ext H (H++[.list (Z6 r)]):=⟨_,rfl⟩
    have g0:=Aj H (.list (Z6 r))
    generalize H++[HObj.list (Z6 r)]=K0 at e0 g0
    have e1:Ext K0 (K0++[HObj.list [.tup [.int 0,.int 0],.int 1]]):=⟨_,rfl⟩
    have g1:=Aj K0 (.list [.tup [.int 0,.int 0],.int 1])
    have e2:Ext (K0++[HObj.list [.tup [.int 0,.int 0],.int 1]]) (K0++[HObj.list [.tup [.int 0,.int 0],.int 1]]++[HObj.list [.int 0,.int 0]]):=⟨_,rfl⟩
    have g2:=Aj (K0++[HObj.list [.tup [.int 0,.int 0],.int 1]]) (.list [.int 0,.int 0])
    have e3:=Ext.new (Ext.refl (K0++[HObj.list [.tup [.int 0,.int 0],.int 1]]++[HObj.list [.int 0,.int 0]])) (.list (Adg K0.length (K0++[HObj.list [.tup [.int 0,.int 0],.int 1]]).length))
    show Ja .add (.loc H.length) (.loc (K0++[HObj.list [.tup [.int 0,.int 0],.int 1]]++[HObj.list [.int 0,.int 0]]).length) (K0++[HObj.list [.tup [.int 0,.int 0],.int 1]]++[HObj.list [.int 0,.int 0]]++[HObj.list (Adg K0.length (K0++[HObj.list [.tup [.int 0,.int 0],.int 1]]).length)]) _ _
    refine Ib (e3.get (e2.get (e1.get g0))) (Aj _ _) (show 4+6 <= 1000 by decide) ⟨_,_,_,[.tup [.int 0,.int 0],.int 1],[.int 0,.int 0],rfl,?_,Aj _ _,?_,?_⟩
    · exact (((e0.trans e1).trans e2).trans e3).new _
    · exact (Ext.new (Ext.refl _) _).get (e3.get (e2.get g1))
    · exact (Ext.new (Ext.refl _) _).get (e3.get g2)
  intro v K zz
  obtain ⟨z,i,j,xs,ys,rfl,ex,gz,gi,gj⟩:=zz
  refine Ak (fun v K=>∃ z,v=.loc z /\ Ext H K /\ K[z]?=some (.list (Z6 r++Adg i j++Yk c)) /\ K[i]?=some (.list xs) /\ K[j]?=some (.list ys)) ?_ ?_
  · skip
    show Wp (C5 (.loc l) (.int 0)) K (fun v H'=>Wp (bfV .len [v]) H' _ _) _
    rw [Jj hS og (G.ext ex)]
    have e3:=Ext.new (Ext.refl K) (.list (Yk c))
    refine Ib (e3.get gz) (Aj _ _) (show 10+6 <= 1000 by decide) ⟨_,rfl,?_,Aj _ _,?_,?_⟩
    · exact (ex.trans e3).new _
    · exact (Ext.new (Ext.refl _) _).get (e3.get gi)
    · exact (Ext.new (Ext.refl _) _).get (e3.get gj)
  intro v K zz
  obtain ⟨z,rfl,ex,gz,gi,gj⟩:=zz
  refine ⟨by decide,?_⟩
  obtain ⟨k,hk,lk⟩:=Cm n 16 (by decide)
  have hk:Int.fmod n 16=(k:Int):=hk
  rw [hk]
  refine Ah fun G kG=>?_
  obtain ⟨v,hv⟩:∃ v,(Z6 r++Adg i j++Yk c)[k]?=some v:=⟨_,List.getElem?_eq_getElem lk⟩
  obtain ⟨e,he,hO⟩:=Ac1 hS gi gj k v hv
  refine kG ?_
  rw [De gz hv]
  exact ⟨ex,k,e,rfl,he,hO⟩
noncomputable def wd (e:Nat):Str:=if e=3 then "cell" else "rain"
theorem Yl {lr e:Nat} {vs:List Val} (LA:LandAt H o r c lg b s ls g es0) (hl:H[lr]?=some (.list vs)) (kv:∀ v∈vs,KR H v) (he:D7 r c vs=some e) (h36:e=3 \/ e=6) :
    Wp (Af T_11 (d+5) 20 [.loc o,.loc lr]) H (fun v K=>v=.str (wd e) /\ K=H) NoE:=by
  rw [Ap (g:=Zk) rfl rfl]
  show wpSs T_11 (Af T_11 (d+4)) _ [some (.loc o),some (.loc lr),none] H _ _ _
  refine Abv ?_
  refine (Ru (d:=d) LA hl kv he).mono (fun _ _ h=>h.elim) ?_
  rintro e' K ⟨rfl,rfl⟩
  rcases h36 with rfl | rfl
  · refine Uk rfl rfl ?_
    rw [Ag,Bw,A9,Ay,wcv (v:=.exc 3) rfl,A5]
    exact Wp.of_eq Vm ⟨rfl,rfl⟩
  · refine Uk rfl rfl ?_
    rw [Ag,Bw,A9,Ay,wcv (v:=.exc 6) rfl,A5]
    exact Wp.of_eq Vn ⟨rfl,rfl⟩
end
inductive DUInv (H:Hp) (x0 x1 x2 x3:Val) (la:Nat) (xs:List (Key × Int)) (D:List Val) (A:List (Key × Int) -> (Key -> Option Int) × Int):Nat -> Env' -> Hp -> Prop
  | mk {n:Nat} {K:Hp} (am:List (Key × Val)) (x5 x7 x8:Option Val) (ex:Ext H K) (ga:K[la]?=some (.dict am)) (hs:Has am (A (xs.take n)).1) (wet:Wet D (A (xs.take n)).1) (al:am.length <= 1000+n) :
    DUInv H x0 x1 x2 x3 la xs D A n [some x0,some x1,some x2,some x3,some (.loc la),x5,some (.int (A (xs.take n)).2),x7,x8] K
theorem Ac2 {K:Hp} {l:Nat} {o:HObj} (h:K[l]?=some o):K.set l o=K:=by
  obtain ⟨lt,e⟩:=List.getElem?_eq_some_iff.mp h
  rw [<- e];exact List.set_getElem_self lt
section
variable {T:Tab} {Φ:Funs} {Γ:Env'} {H K:Hp} {Q:Val -> Hp -> Prop} {E:Nat -> Hp -> Prop} {d:Nat} {QS:Env' -> Hp -> Prop} {R:Val -> Hp -> Prop} {ES:Nat -> Env' -> Hp -> Prop} {l r c m o lg b s ls:Nat} {g:List (List Val)} {es es0 gs:List (Key × Val)} {v:Val} {F:Key -> Option Int} {ks:List Key}
theorem Afh {x1 x2 x3 x4 x6:Val} {x5 x8:Option Val} {p:Key × Int} {f:Int} (x:Lk K r c g ks l m o) (fd:Fld g r c (ks.map Aa) F gs) (hp:OkR r c p) (hf:F p.1=some f)
    (q:∀ t K',E1 g r c (ks.map Aa) F gs p.1=some t -> Aa t∈ks.map Aa -> Ext K K' -> Q (Aa t) K') :
    wpE T_11 (Af T_11 (d+6)) (.sub (.call 7 (.cons (.var 0) (.cons (.sub (.var 7) (.int 0)) .nil))) (.neg (.int 1))) [some (.loc o),some x1,some x2,some x3,some x4,x5,some x6,some (rv p),x8] K Q E:=by
  rw [A8,Ay,wcv (v:=.loc o) rfl,Al,A8,wvr (v:=rv p) rfl]
  refine (x.way (d:=d) (Z3 p.1)).mono ?_ ?_
  · intro a K' zz
    refine ex5 zz fun F' gs' k ws l' zz=>Mu zz fun fd' hk w zr8 _ ex gw=>?_;subst zr8
    obtain ⟨rfl,rfl⟩:=fd'.uniq fd
    rw [Gi hp.1] at hk
    cases hk
    refine ex1 w.endD fun t zz=>Ad zz fun et dt=>?_
    obtain ⟨ys,ey⟩:=List.getLast?_eq_some_iff.mp et
    rw [ey,List.map_append] at gw
    exact Vj gw (q t K' ((Qe w).trans et) dt ex)
  · rintro e K' ⟨_,⟨_,h⟩ | ⟨_,F',gs',k,fd',hk,h⟩⟩
    · rw [Gi hp.1] at h;cases h
    · obtain ⟨rfl,rfl⟩:=fd'.uniq fd
      rw [Gi hp.1] at hk
      cases hk
      rw [hf] at h;cases h
theorem Afi {x2 x3:Val} {x5 x8:Option Val} {le la:Nat} {les am:List (Key × Val)} {S:(Key -> Option Int) × Int} {p:Key × Int} (x:Lk K r c g ks l m o) (fd:Fld g r c (ks.map Aa) F gs) (hp:OkR r c p) (ge:K[le]?=some (.dict les)) (hes:Has les F) (ga:K[la]?=some (.dict am)) (hs:Has am S.1) (wet:Wet (ks.map Aa) S.1) (al:am.length < 5000)
    (q:∀ am' x8' K',Has am' (N4 (E1 g r c (ks.map Aa) F gs) S p).1 -> Wet (ks.map Aa) (N4 (E1 g r c (ks.map Aa) F gs) S p).1 -> am'.length <= am.length+1 -> Ext K K' -> QS [some (.loc o),some (.loc le),some x2,some x3,some (.loc la),x5,some (.int (N4 (E1 g r c (ks.map Aa) F gs) S p).2),some (rv p),x8'] (K'.set la (.dict am'))) :
    wpSs T_11 (Af T_11 (d+6)) (.cons (.ite (.cmp .isin (.sub (.var 7) (.int 0)) (.var 1)) (.cons (.assign 8 (.sub (.call 7 (.cons (.var 0) (.cons (.sub (.var 7) (.int 0)) .nil))) (.neg (.int 1)))) (.cons (.setitem (.var 4) (.var 8) (.bin .add (.sub (.var 4) (.var 8)) (.sub (.var 7) (.int 1)))) .nil)) (.cons (.assign 6 (.bin .add (.var 6) (.sub (.var 7) (.int 1)))) .nil)) .nil)
      [some (.loc o),some (.loc le),some x2,some x3,some (.loc la),x5,some (.int S.2),some (rv p),x8] K QS R ES:=by
  rw [Ag,Bd,A4,A8,wvr (v:=rv p) rfl]
  show Ea (Dy .isin (.tup [.int p.1.1,.int p.1.2]) (.loc le) K) _
  rw [Km ge,Bo,Ac,Qc hes]
  refine A7 (fun e=>?_) fun e=>?_
  · obtain ⟨f,hf⟩:=Option.isSome_iff_exists.mp e
    refine Afh x fd hp hf fun t K' ee dt ex=>?_
    obtain ⟨n,hn⟩:=wet t dt
    have ep:N4 (E1 g r c (ks.map Aa) F gs) S p=(upd S.1 t (n+p.2),S.2):=by unfold N4;rw [ee];show (upd S.1 t ((S.1 t).getD 0+p.2),S.2)=_;rw [hn];rfl
    rw [ep] at q
    have hg:D5 am t=some (.int n):=by rw [hs t,hn];rfl
    rw [Ag,Be,B9,wsv (v:=.loc la) (w:=Aa t) rfl rfl]
    show Wp (C5 (.loc la) (.tup [.int t.1,.int t.2])) K' _ _
    rw [Dm (ex.get ga) hg,A8,wvr (v:=rv p) rfl,A3]
    show Wp (C5 (.tup [Aa p.1,.int p.2]) (.int 1)) K' _ _
    rw [D3,Gb,wvr (v:=.loc la) rfl,wvr (v:=Aa t) rfl]
    show Wp (Ax (.loc la) (.tup [.int t.1,.int t.2]) (.int (n+p.2))) K' _ _
    rw [Fq (ex.get ga) (Nat.lt_trans al (by decide))]
    exact q _ _ K' (hs.put t (n+p.2)) (wet.put t _) (Dp _ _ _) ex
  · have hF:F p.1=none:=Option.not_isSome_iff_eq_none.mp (by rw [e];exact Bool.false_ne_true)
    have ep:N4 (E1 g r c (ks.map Aa) F gs) S p=(S.1,S.2+p.2):=by unfold N4;rw [N2 hF]
    rw [ep] at q
    rw [Ag,Cj,B9,wvr (v:=.int S.2) rfl,A8,wvr (v:=rv p) rfl]
    have:=q am x8 K hs wet (Nat.le_succ _) (Ext.refl _)
    rw [show K.set la (.dict am)=K from Ac2 ga] at this
    exact this
theorem Lk.le (x:Lk H r c g ks l m o):ks.length <= 900:=by
  refine ex4 x.L fun lg b' ls es zz=>Ad zz fun L q=>?_
  have:=Qf (r:=r) (c:=c) x.s.2.1 x.s.2.2.2 (inD es)
  rw [q,List.length_map] at this;exact this
theorem Ac3 {le lr:Nat} {les:List (Key × Val)} {xs:List (Key × Int)} (x:Lk H r c g ks l m o) (fd:Fld g r c (ks.map Aa) F gs) (ge:H[le]?=some (.dict les)) (hes:Has les F) (hl:H[lr]?=some (.list (xs.map rv))) (ok:∀ p∈xs,OkR r c p) (xl:xs.length <= 100) :
    Wp (Af T_11 (d+7) 21 [.loc o,.loc le,.loc m,.loc lr]) H (fun v K=>∃ m',v=.tup [.loc m',.int (Bz (E1 g r c (ks.map Aa) F gs) (ks.map Aa) xs).2] /\ H.length <= m' /\ Ext H K /\ K[m']?=some (.list (Afp (ks.map Aa) (Bz (E1 g r c (ks.map Aa) F gs) (ks.map Aa) xs).1))) NoE:=by
  have Dl:(ks.map Aa).length <= 900:=by rw [List.length_map];exact x.le
  have DD:∀ v∈ks.map Aa,∃ k,v=Aa k:=fun v h=>by
    refine ex1 (List.mem_map.mp h) fun k zz=>Ad zz fun _ e=>?_
    exact ⟨k,e.symm⟩
  rw [Ap (g:=Zl) rfl rfl]
  show wpSs T_11 (Af T_11 (d+6)) _ [some (.loc o),some (.loc le),some (.loc m),some (.loc lr),none,none,none,none,none] H _ _ _
  refine Ak (fun u K'=>u=.loc H.length /\ K'=H++[.dict []]) ⟨rfl,rfl⟩ ?_
  rintro u K' ⟨rfl,e⟩
  rw [e]
  clear e K'
  have e0:Ext H (H++[.dict []]):=⟨_,rfl⟩
  refine Z5 (H:=H) (lo:=0) (la:=H.length) (a:=4) (D:=ks.map Aa) (Γ0:=fun y=>[some (.loc o),some (.loc le),some (.loc m),some (.loc lr),some (.loc H.length),y,none,none,none]) (L:=fun _=>True) 5 (fun _ _=>rfl) (fun _=>rfl) (fun _=>rfl) DD (Nat.le_trans Dl (by decide))
    (fun {Q E} k=>k m _ (Ext.refl _) (e0.get x.m) (.inr (Nat.ne_of_lt (Bq x.m)))) e0 trivial (Nat.le_refl _) (fun _ _ h _=>h) (fun _ _ h=>h) (Aj _ _) (fun am x5 K2 ex2 _ ga2 hs2 al2=>?_)
  rw [Ag,Cj]
  obtain ⟨I,hI⟩:=Dw (DUInv H (.loc o) (.loc le) (.loc m) (.loc lr) H.length xs (ks.map Aa) (Bz (E1 g r c (ks.map Aa) F gs) (ks.map Aa)))
  refine Ce (I xs.length) ?_ ?_
  · refine C1 ?_
    rw [wvr (v:=.loc lr) rfl,B0 (Bc (ex2.get hl))]
    have len:(xs.map rv).length=xs.length:=List.length_map ..
    refine B6 I ((hI _ _ _).mpr (.mk am x5 none none ex2 ga2 hs2 (Wet.dry _) al2)) ?_ ?_ ?_
    · intro Γ K h
      have h:I (xs.map rv).length Γ K:=h
      rw [len] at h;exact h
    · intro k Γ K _ h
      obtain ⟨am',y5,y7,y8,ex,_⟩:=(hI _ _ _).mp h
      exact Bk (ex.get hl)
    · intro n y Γ K hy h
      obtain ⟨am',y5,y7,y8,ex,ga,hs,wet,al⟩:=(hI _ _ _).mp h
      have hy:(xs.map rv)[n]?=some y:=hy
      rw [List.getElem?_map] at hy
      refine ex1 (Option.map_eq_some_iff.mp hy) fun p zz=>Ad zz fun hp hr1=>?_;refine hr1▸?_
      have lt:=(List.getElem?_eq_some_iff.mp hp).1
      refine ⟨_,rfl,?_⟩
      refine Afi (d:=d) (S:=Bz (E1 g r c (ks.map Aa) F gs) (ks.map Aa) (xs.take n)) (x.ext ex) fd (ok p (List.mem_of_getElem? hp)) (ex.get ge) hes ga hs wet (by exact Aho lt len al xl) fun am3 x8 K3 hs3 wet3 al3 e3=>?_
      rw [<- Kq hp] at hs3 wet3 ⊢
      exact (hI _ _ _).mpr (.mk _ _ _ _ ((ex.trans e3).set (Nat.le_refl _) _) (Bb _ (e3.get ga)) hs3 wet3 (by exact Ahp al al3))
  intro Γ K h
  obtain ⟨am',y5,y7,y8,ex,ga,hs,wet,al⟩:=(hI _ _ _).mp h
  rw [List.take_length] at hs wet ⊢
  refine Mp (fun v=>.tup [v,.int (((Ef v).bind (Bz (E1 g r c (ks.map Aa) F gs) (ks.map Aa) xs).1).getD 0)]) (P:=fun v K4=>v=.loc m /\ K4=K) ⟨rfl,rfl⟩ ?_
  rintro v K4 ⟨rfl,e⟩
  rw [e]
  refine ⟨_,_,Bc (ex.get x.m),Bk (ex.get x.m),Nat.lt_of_le_of_lt Dl (by decide),fun y hy=>?_,?_⟩
  · obtain ⟨k,rfl⟩:=DD y hy
    obtain ⟨n,hn⟩:=wet k hy
    have hg:D5 am' k=some (.int n):=by rw [hs k,hn];rfl
    rw [Dd,wcv (v:=Aa k) rfl,Al,wsv (v:=.loc H.length) (w:=Aa k) rfl rfl]
    show Wp (C5 (.loc H.length) (.tup [.int k.1,.int k.2])) K _ _
    rw [Dm ga hg]
    exact ⟨(Vr hn).symm,rfl⟩
  · show wpEs T_11 (Af T_11 (d+6)) (.cons (.var 6) .nil) [some (.loc o),some (.loc le),some (.loc m),some (.loc lr),some (.loc H.length),y5,some (.int (Bz (E1 g r c (ks.map Aa) F gs) (ks.map Aa) xs).2),y7,y8] _ _ _
    rw [wcv (v:=.int _) rfl]
    exact ⟨K.length,rfl,ex.len,ex.new _,Aj _ _⟩
end
noncomputable def Ms (ks:List Key) (S:Key -> Option Int):List (Key × Int):=ks.map fun k=>(k,(S k).getD 0)
theorem Vu (ks:List Key) (S:Key -> Option Int):Afp (ks.map Aa) S=(Ms ks S).map rv:=by
  unfold Afp Ms
  rw [List.map_map,List.map_map];rfl
theorem Qh (ks:List Key):Ms ks (dry (ks.map Aa))=ks.map fun k=>(k,0):=by
  refine List.map_congr_left fun k hk=>?_
  unfold dry
  rw [if_pos (Kp.mpr hk)];rfl
noncomputable def rvd (p:Key × Int):PyData:=.tuple [.tuple [.int p.1.1,.int p.1.2],.int p.2]
theorem Ym (p:Key × Int):PyData.eqv (rvd p) (rvd p)=true:=by
  show ((p.1.1 == p.1.1 && (p.1.2 == p.1.2 && true)) && (p.2 == p.2 && true))=true
  simp
section
variable {T:Tab} {Φ:Funs} {Γ:Env'} {H K:Hp} {Q:Val -> Hp -> Prop} {E:Nat -> Hp -> Prop} {d:Nat} {QS:Env' -> Hp -> Prop} {R:Val -> Hp -> Prop} {ES:Nat -> Env' -> Hp -> Prop} {l r c m o lg b s ls:Nat} {g:List (List Val)} {es es0 gs:List (Key × Val)} {v:Val} {F:Key -> Option Int} {ks:List Key}
theorem Jm {n a:Nat} {ys:List (Key × Int)} (h:H[a]?=some (.list (ys.map rv))):A6 H (n+4) (.loc a)=some (.list (ys.map rvd)):=by
  rw [Ko h,Mo (gd:=rvd) ys (fun _ _=>rfl)];rfl
theorem Qi (ys:List (Key × Int)):PyData.eqvAll (ys.map rvd) (ys.map rvd)=true:=Ia _ fun d hd=>by
  refine ex1 (List.mem_map.mp hd) fun p zz=>Ad zz fun _ hr0=>?_;refine hr0▸?_
  exact Ym p
theorem Yn {a a':Nat} {ys:List (Key × Int)} (h:H[a]?=some (.list (ys.map rv))) (h':H[a']?=some (.list (ys.map rv))):Gq H (.loc a) (.loc a')=some true:=by
  have e:=Jm (n:=2) h
  have e':=Jm (n:=2) h'
  unfold Gq
  rw [show A6 H Gp (.loc a)=_ from e,show A6 H Gp (.loc a')=_ from e']
  exact congrArg some (Qi ys)
theorem Mt {a a':Nat} {n:Int} {ys:List (Key × Int)} (h:H[a]?=some (.list (ys.map rv))) (h':H[a']?=some (.list (ys.map rv))):Gq H (.tup [.loc a,.int n]) (.tup [.loc a',.int n])=some true:=by
  have two:∀ {x:Nat},A6 H 5 (.loc x)=some (.list (ys.map rvd)) -> A6 H Gp (.tup [.loc x,.int n])=some (.tuple [.list (ys.map rvd),.int n]):=fun {x} e=>by
    show (match A6 H 5 (.loc x),(some [PyData.int n]:Option (List PyData)) with
      | some d,some ds=>some (d :: ds)
      | _,_=>none).map PyData.tuple=_
    rw [e];rfl
  unfold Gq
  rw [two (Jm (n:=1) h),two (Jm (n:=1) h')]
  show some (PyData.eqvAll (ys.map rvd) (ys.map rvd) && ((n == n) && true))=some true
  rw [Qi];simp
noncomputable def Agw (g:List (List Val)) (r c:Nat) (ks:List Key) (F:Key -> Option Int) (gs:List (Key × Val)) (xs:List (Key × Int)) (H:Hp) (v:Val) (K:Hp):Prop :=
  ∃ m',v=.tup [.loc m',.int (Bz (E1 g r c (ks.map Aa) F gs) (ks.map Aa) xs).2] /\ H.length <= m' /\ Ext H K /\ K[m']?=some (.list ((Ms ks (Bz (E1 g r c (ks.map Aa) F gs) (ks.map Aa) xs).1).map rv))
theorem Lk.run {lr:Nat} {xs:List (Key × Int)} (x:Lk H r c g ks l m o) (hl:H[lr]?=some (.list (xs.map rv))) (ok:∀ p∈xs,OkR r c p) (xl:xs.length <= 100) :
    Wp (Af T_11 (d+6) 36 [.loc o,.loc lr]) H (fun v K=>∃ F gs,Fld g r c (ks.map Aa) F gs /\ Agw g r c ks F gs xs H v K) NoE:=by
  refine Ah fun G kG=>?_
  refine ex4 x.L fun lg b' ls es zz=>Ad zz fun L q=>?_
  refine kG ?_
  have hS:=x.s
  unfold OkS at hS
  have:=Lo (d:=d) x.og hS.2.1 hS.2.2.2 (Nat.le_trans x.n (by decide)) L (fun k hk=>x.d k (Kp.mp (q▸hk))) hl ok xl
  rw [q] at this
  refine this.then ?_
  intro v K zz
  refine ex3 zz fun F gs m' zz=>Fc zz fun fd ev hm ex gm=>?_
  rw [Vu] at gm
  exact ⟨F,gs,fd,m',ev,hm,ex,gm⟩
theorem Lk.runF {lr:Nat} {xs:List (Key × Int)} (x:Lk H r c g ks l m o) (fd:Fld g r c (ks.map Aa) F gs) (hl:H[lr]?=some (.list (xs.map rv))) (ok:∀ p∈xs,OkR r c p) (xl:xs.length <= 100) :
    Wp (Af T_11 (d+6) 36 [.loc o,.loc lr]) H (Agw g r c ks F gs xs H) NoE:=by
  refine (x.run hl ok xl).then ?_
  intro v K zz
  refine ex2 zz fun F' gs' zz=>Ad zz fun fd' h=>?_
  obtain ⟨rfl,rfl⟩:=fd'.uniq fd
  exact h
theorem Vv {a:Nat} {xs:List Val} (h:H[a]?=some (.list xs)) (q:Q (.loc H.length) (H++[.list xs])):Wp (bfV .list [.loc a]) H Q E:=by
  refine Wp.of_eq ?_ q
  show (match Cc (.loc a) H with | some xs=>M.alloc (.list xs) H | none=>.bad)=_
  rw [Jb h];rfl
theorem Lk.umeth {Q:Nat -> Hp -> Prop} {mm k:Nat} (x:Lk H r c g ks l m o) (h:T_11.meth 7 mm=some k):Wp (C3 T_11 (.loc o) mm) H Q E=Q k H:=by
  refine Ah fun G kG=>?_
  refine ex4 x.L fun lg b' ls es zz=>Ad zz fun L q=>?_
  refine ex1 L.inst fun fs zz=>Ad zz fun f0 _=>?_
  refine kG ?_
  exact Fp f0 h
theorem Yo {Γ:Env'} (x:Lk H r c g ks l m o) (h1:Γ[1]?=some (some (.loc l))) (h2:Γ[2]?=some (some (.loc m))) (h3:Γ[3]?=some (some (.loc o))) :
    wpE T_11 (Af T_11 (d+2)) (.and (.cmp .eq (.umeth (.var 3) 5 .nil) (.var 1)) (.cmp .eq (.umeth (.var 3) 4 .nil) (.var 2))) Γ H (fun v _=>v=.bool true) E:=by
  refine Ah fun G kG=>?_
  refine ex4 x.L fun lg b' ls es zz=>Ad zz fun L hq=>?_
  refine kG ?_
  have hS:=x.s
  unfold OkS at hS
  rw [Fs,A4,Cb,wvr h3,x.umeth (show T_11.meth 7 5=some 28 from rfl)]
  refine (O4 (d:=d+1) x.og hS.2.1 L).then ?_
  rintro v K1 ⟨rfl,e1,G1⟩
  have x1:=x.ext e1
  rw [wvr h1,show Dy .eq (.loc (H.length+r)) (.loc l) K1=some true from X9 G1 x1.G x.og.nv]
  refine Gn (d:=d) (fs:=[]) hS.2.1 hS.2.2.2 (L.ext e1) h3 fun m' K2 _ e2 g2=>?_
  rw [hq] at g2
  rw [wvr h2,show Dy .eq (.loc m') (.loc m) K2=some true from Yb g2 (e2.get x1.m),Bo]
end
section
variable {T:Tab} {Φ:Funs} {Γ:Env'} {H K:Hp} {Q:Val -> Hp -> Prop} {E:Nat -> Hp -> Prop} {d:Nat} {QS:Env' -> Hp -> Prop} {R:Val -> Hp -> Prop} {ES:Nat -> Env' -> Hp -> Prop} {l r c m o lg b s ls lr m9:Nat} {g:List (List Val)} {es es0 gs:List (Key × Val)} {v x0 x5:Val} {F:Key -> Option Int} {ks:List Key} {xs:List (Key × Int)} {a6 a7 a8 a10 a11 a12 a13:Option Val}
theorem Ic {a b:Val} (h:Gq H a b=some true) (k:Bool -> Prop):Ea (Dy .ne a b H) k=k false:=B0 (Ags H a b h) k
theorem Vw {lh m12:Nat} {x11:Val} {n12:Int} (x:Lk H r c g ks l m o) (fd:Fld g r c (ks.map Aa) F gs) (gl:H[lr]?=some (.list (xs.map rv))) (ok:∀ p∈xs,OkR r c p) (xl:xs.length <= 100) (g9:H[m9]?=some (.list ((ks.map fun k=>(k,(0:Int))).map rv))) (gh:H[lh]?=some (.list ([].map rv)))
    (en:n12=(Bz (E1 g r c (ks.map Aa) F gs) (ks.map Aa) xs).2) (g12:H[m12]?=some (.list ((Ms ks (Bz (E1 g r c (ks.map Aa) F gs) (ks.map Aa) xs).1).map rv))) :
    wpSs T_11 (Af T_11 (d+7)) (.cons (.ite (.or (.cmp .ne (.call 36 (.cons (.var 3) (.cons (.var 10) .nil))) (.var 9)) (.cmp .ne (.call 36 (.cons (.var 3) (.cons (.bf .list (.cons (.var 4) .nil)) .nil))) (.var 12))) (.cons (.ret (.some (.bool false))) .nil) .nil) (.cons (.ret (.some (.and (.cmp .eq (.umeth (.var 3) 5 .nil) (.var 1)) (.cmp .eq (.umeth (.var 3) 4 .nil) (.var 2))))) .nil))
      [some x0,some (.loc l),some (.loc m),some (.loc o),some (.loc lr),some x5,a6,a7,a8,some (.tup [.loc m9,.int 0]),some (.loc lh),some x11,some (.tup [.loc m12,.int n12]),a13] H QS (fun v _=>v=.bool true) ES:=by
  refine E9 (fun K=>Ext H K) ?_ ?_
  · rw [Du,A4,Ay,wcv (v:=.loc o) rfl,wcv (v:=.loc lh) rfl]
    refine (x.runF (d:=d+1) fd gh (fun _ h=>nomatch h) (Nat.zero_le _)).then ?_
    intro v K1 zz
    refine ex1 zz fun m' zz=>Cg zz fun zr1 _ e1 g1=>?_;subst zr1
    rw [show Ms ks (Bz (E1 g r c (ks.map Aa) F gs) (ks.map Aa) []).1=ks.map fun k=>(k,0) from Qh ks] at g1
    rw [wvr (v:=.tup [.loc m9,.int 0]) rfl,show (Bz (E1 g r c (ks.map Aa) F gs) (ks.map Aa) []).2=0 from rfl,Ic (Mt g1 (e1.get g9)),Ac,Bp,A4,Ay,wcv (v:=.loc o) rfl,Al,E7,Al,Az]
    refine Vv (e1.get gl) ?_
    have e2:Ext H (K1++[.list (xs.map rv)]):=e1.new _
    refine ((x.ext e2).runF (d:=d+1) fd (Aj _ _) ok xl).then ?_
    intro v K2 zz
    refine ex1 zz fun m'' zz=>Cg zz fun zr1 _ e3 g3=>?_;subst zr1
    rw [wvr (v:=.tup [.loc m12,.int n12]) rfl,en,Ic (Mt g3 ((e2.trans e3).get g12))]
    exact ⟨rfl,e2.trans e3⟩
  · intro K e
    exact Yo (d:=d+5) (x.ext e) rfl rfl rfl
theorem Yp {m11:Nat} {n11:Int} {ys:List (Key × Int)} {ss:MSs} {v9 v10 v12:Val} (g11:K[m11]?=some (.list (ys.map rv)))
    (q:∀ a13,wpSs T_11 (Af T_11 (d+7)) ss [some x0,some (.loc l),some (.loc m),some (.loc o),some (.loc lr),some x5,a6,a7,a8,some v9,some v10,some (.tup [.loc m11,.int n11]),some v12,a13] K QS R ES) :
    wpSs T_11 (Af T_11 (d+7)) (.cons (.ite (.or (.not (.isinst (.var 11) .tuple)) (.or (.cmp .ne (.bf .len (.cons (.var 11) .nil)) (.int 2)) (.or (.not (.isinst (.sub (.var 11) (.int 0)) .list)) (.not (.call 9 (.cons (.sub (.var 11) (.int 1)) .nil)))))) (.cons (.ret (.some (.bool false))) .nil) .nil) (.cons (.each 13 (.sub (.var 11) (.int 0)) (.cons (.ite (.or (.not (.isinst (.var 13) .tuple)) (.or (.cmp .ne (.bf .len (.cons (.var 13) .nil)) (.int 2)) (.not (.call 9 (.cons (.sub (.var 13) (.int 1)) .nil))))) (.cons (.ret (.some (.bool false))) .nil) .nil) .nil)) ss))
      [some x0,some (.loc l),some (.loc m),some (.loc o),some (.loc lr),some x5,a6,a7,a8,some v9,some v10,some (.tup [.loc m11,.int n11]),some v12,a13] K QS R ES:=by
  refine E9 (fun K'=>K'=K) ?_ ?_
  · rw [Du,Ca,By,wvr (v:=.tup [.loc m11,.int n11]) rfl,Dk,Ac,Ac,Bool.not_true,Bp,Du,A4,wbf (v:=.tup [.loc m11,.int n11]) rfl,C7,A3,Mg,Ac,show (!decide ((([Val.loc m11,.int n11].length:Nat):Int)=2))=false from rfl,Bp,Du,Ca,By,A8,wvr (v:=.tup [.loc m11,.int n11]) rfl,A3,Ez,Ui _ _ g11,Ac,Ac,Bool.not_true,Bp,Ca,Ay,Al,A8,wvr (v:=.tup [.loc m11,.int n11]) rfl,A3,D3]
    exact ⟨rfl,rfl⟩
  intro K' e
  rw [e]
  clear e K'
  obtain ⟨I,hI⟩:=Dw (fun (k:Nat) (Γ:Env') (K':Hp)=>K'=K /\ ∃ a,Γ=[some x0,some (.loc l),some (.loc m),some (.loc o),some (.loc lr),some x5,a6,a7,a8,some v9,some v10,some (.tup [.loc m11,.int n11]),some v12,a])
  refine Ce (I ys.length) ?_ ?_
  · refine Vo (l:=m11) (K0:=K) I (by rw [A8,wvr (v:=.tup [.loc m11,.int n11]) rfl];exact ⟨rfl,rfl⟩) g11 ((hI _ _ _).mpr ⟨rfl,_,rfl⟩) (fun k Γ K' h=>by rw [((hI _ _ _).mp h).1];exact g11) ?_ ?_
    · intro k y Γ K' hy h
      refine Ad ((hI _ _ _).mp h) fun e zz=>ex1 zz fun a hr0=>?_;refine Eq.symm hr0▸?_
      rw [e]
      rw [List.getElem?_map] at hy
      refine ex1 (Option.map_eq_some_iff.mp hy) fun p zz=>Ad zz fun _ hr1=>?_;refine hr1▸?_
      refine E9 (fun K'=>K'=K) ?_ fun K' e=>(hI _ _ _).mpr ⟨e,_,rfl⟩
      rw [Du,Ca,By,wvr (v:=.tup [Aa p.1,.int p.2]) rfl,Dk,Ac,Ac,Bool.not_true,Bp,Du,A4,wbf (v:=.tup [Aa p.1,.int p.2]) rfl,C7,A3,Mg,Ac,show (!decide ((([Aa p.1,.int p.2].length:Nat):Int)=2))=false from rfl,Bp,Ca,Ay,Al,A8,wvr (v:=.tup [Aa p.1,.int p.2]) rfl,A3,D3]
      exact ⟨rfl,rfl⟩
    · intro Γ K' h
      rw [List.length_map] at h;exact h
  intro Γ K' h
  refine Ad ((hI _ _ _).mp h) fun e zz=>ex1 zz fun a hr2=>?_;refine Eq.symm hr2▸?_
  rw [e];exact q a
end
section
variable {T:Tab} {Φ:Funs} {Γ:Env'} {H K:Hp} {Q:Val -> Hp -> Prop} {E:Nat -> Hp -> Prop} {d:Nat} {QS:Env' -> Hp -> Prop} {R:Val -> Hp -> Prop} {ES:Nat -> Env' -> Hp -> Prop} {l r c m o lg b s ls lr m9:Nat} {g:List (List Val)} {es es0 gs:List (Key × Val)} {v x0 x5:Val} {F:Key -> Option Int} {ks:List Key} {xs:List (Key × Int)} {a6 a7 a8 a10 a11 a12 a13:Option Val}
theorem Ac4 {m11 m12:Nat} {n:Int} {ys:List (Key × Int)} (x:Lk H r c g ks l m o) (fd:Fld g r c (ks.map Aa) F gs) (gl:H[lr]?=some (.list (xs.map rv))) (ok:∀ p∈xs,OkR r c p) (xl:xs.length <= 100) (g9:H[m9]?=some (.list ((ks.map fun k=>(k,(0:Int))).map rv)))
    (ex:Ext H K) (g10:K[H.length]?=some (.list (xs.map rv))) (b11:H.length < m11) (b12:m11 < m12) (g11:K[m11]?=some (.list (ys.map rv))) (g12:K[m12]?=some (.list (ys.map rv))) (en:n=(Bz (E1 g r c (ks.map Aa) F gs) (ks.map Aa) xs).2) (ey:ys=Ms ks (Bz (E1 g r c (ks.map Aa) F gs) (ks.map Aa) xs).1) :
    wpSs T_11 (Af T_11 (d+7)) (.cons (.ite (.or (.cmp .ne (.var 11) (.var 12)) (.cmp .ne (.var 10) (.var 4))) (.cons (.ret (.some (.bool false))) .nil) .nil) (.cons (.expr (.bm (.var 10) .clear .nil)) (.cons (.expr (.bm (.sub (.var 11) (.int 0)) .clear .nil)) (.cons (.ite (.or (.cmp .ne (.call 36 (.cons (.var 3) (.cons (.var 10) .nil))) (.var 9)) (.cmp .ne (.call 36 (.cons (.var 3) (.cons (.bf .list (.cons (.var 4) .nil)) .nil))) (.var 12))) (.cons (.ret (.some (.bool false))) .nil) .nil) (.cons (.ret (.some (.and (.cmp .eq (.umeth (.var 3) 5 .nil) (.var 1)) (.cmp .eq (.umeth (.var 3) 4 .nil) (.var 2))))) .nil)))))
      [some x0,some (.loc l),some (.loc m),some (.loc o),some (.loc lr),some x5,a6,a7,a8,some (.tup [.loc m9,.int 0]),some (.loc H.length),some (.tup [.loc m11,.int n]),some (.tup [.loc m12,.int n]),a13] K QS (fun v _=>v=.bool true) ES:=by
  refine E9 (fun K'=>K'=K) ?_ ?_
  · rw [Du,A4,wvr (v:=.tup [.loc m11,.int n]) rfl,wvr (v:=.tup [.loc m12,.int n]) rfl,Ic (Mt g11 g12),Ac,Bp,A4,wvr (v:=.loc H.length) rfl,wvr (v:=.loc lr) rfl,Ic (Yn g10 (ex.get gl))]
    exact ⟨rfl,rfl⟩
  intro K' e
  rw [e]
  clear e K'
  refine Db (fun K'=>K'=K.set H.length (.list [])) ?_ ?_
  · rw [Kw,wvr (v:=.loc H.length) rfl,Gk g10]
    exact Jf g10 rfl
  intro K' e
  rw [e]
  clear e K'
  have g11':(K.set H.length (.list []))[m11]?=some (.list (ys.map rv)):=Ao _ (Nat.ne_of_lt b11) g11
  refine Db (fun K'=>K'=(K.set H.length (.list [])).set m11 (.list [])) ?_ ?_
  · rw [Kw,A8,wvr (v:=.tup [.loc m11,.int n]) rfl,A3,Ez,Gk g11']
    exact Jf g11' rfl
  intro K' e
  rw [e]
  clear e K'
  have ex2:Ext H ((K.set H.length (.list [])).set m11 (.list [])):=(ex.set (Nat.le_refl _) _).set (Nat.le_of_lt b11) _
  refine Vw (d:=d) (x.ext ex2) fd (ex2.get gl) ok xl (ex2.get g9) (Ao _ (Ne.symm (Nat.ne_of_lt b11)) (Bb _ g10)) en ?_
  rw [<- ey]
  exact Ao _ (Nat.ne_of_lt b12) (Ao _ (Nat.ne_of_lt (Nat.lt_trans b11 b12)) g12)
theorem Yq (x:Lk H r c g ks l m o) (gl:H[lr]?=some (.list (xs.map rv))) (ok:∀ p∈xs,OkR r c p) (xl:xs.length <= 100) :
    wpSs T_11 (Af T_11 (d+7)) (.cons (.assign 9 (.tup (.cons (.comp (.tup (.cons (.var 14) (.cons (.int 0) .nil))) (.var 2) .none) (.cons (.int 0) .nil)))) (.cons (.ite (.cmp .ne (.call 36 (.cons (.var 3) (.cons (.list .nil) .nil))) (.var 9)) (.cons (.ret (.some (.bool false))) .nil) .nil) (.cons (.assign 10 (.bf .list (.cons (.var 4) .nil))) (.cons (.assign 11 (.call 36 (.cons (.var 3) (.cons (.var 10) .nil)))) (.cons (.assign 12 (.call 21 (.cons (.var 3) (.cons (.call 18 (.cons (.var 1) (.cons (.var 2) .nil))) (.cons (.var 2) (.cons (.var 4) .nil)))))) (.cons (.ite (.or (.not (.isinst (.var 11) .tuple)) (.or (.cmp .ne (.bf .len (.cons (.var 11) .nil)) (.int 2)) (.or (.not (.isinst (.sub (.var 11) (.int 0)) .list)) (.not (.call 9 (.cons (.sub (.var 11) (.int 1)) .nil)))))) (.cons (.ret (.some (.bool false))) .nil) .nil) (.cons (.each 13 (.sub (.var 11) (.int 0)) (.cons (.ite (.or (.not (.isinst (.var 13) .tuple)) (.or (.cmp .ne (.bf .len (.cons (.var 13) .nil)) (.int 2)) (.not (.call 9 (.cons (.sub (.var 13) (.int 1)) .nil))))) (.cons (.ret (.some (.bool false))) .nil) .nil) .nil)) (.cons (.ite (.or (.cmp .ne (.var 11) (.var 12)) (.cmp .ne (.var 10) (.var 4))) (.cons (.ret (.some (.bool false))) .nil) .nil) (.cons (.expr (.bm (.var 10) .clear .nil)) (.cons (.expr (.bm (.sub (.var 11) (.int 0)) .clear .nil)) (.cons (.ite (.or (.cmp .ne (.call 36 (.cons (.var 3) (.cons (.var 10) .nil))) (.var 9)) (.cmp .ne (.call 36 (.cons (.var 3) (.cons (.bf .list (.cons (.var 4) .nil)) .nil))) (.var 12))) (.cons (.ret (.some (.bool false))) .nil) .nil) (.cons (.ret (.some (.and (.cmp .eq (.umeth (.var 3) 5 .nil) (.var 1)) (.cmp .eq (.umeth (.var 3) 4 .nil) (.var 2))))) .nil))))))))))))
      [some x0,some (.loc l),some (.loc m),some (.loc o),some (.loc lr),some x5,a6,a7,a8,none,none,none,none,none] H QS (fun v _=>v=.bool true) ES:=by
  have kl:=x.le
  refine Ak (fun v K=>v=.tup [.loc H.length,.int 0] /\ K=H++[.list ((ks.map fun k=>(k,(0:Int))).map rv)]) ?_ ?_
  · skip
    refine Mp (fun v=>.tup [v,.int 0]) (P:=fun v K4=>v=.loc m /\ K4=H) ⟨rfl,rfl⟩ ?_
    rintro v K4 ⟨rfl,e⟩
    rw [e]
    refine ⟨_,_,Bc x.m,Bk x.m,by rw [List.length_map];show _ < 16777216;exact Al7 kl,fun y hy=>?_,?_⟩
    · rw [Dd,wcv (v:=y) rfl]
      exact ⟨rfl,rfl⟩
    · refine ⟨rfl,?_⟩
      rw [List.map_map,List.map_map];rfl
  rintro v K ⟨rfl,e⟩
  rw [e]
  clear e K
  have e0:Ext H (H++[.list ((ks.map fun k=>(k,(0:Int))).map rv)]):=⟨_,rfl⟩
  have g9:=Aj H (.list ((ks.map fun k=>(k,(0:Int))).map rv))
  have x:=x.ext e0
  have gl:=e0.get gl
  generalize hm9:H.length=m9 at *
  generalize H++[HObj.list ((ks.map fun k=>(k,(0:Int))).map rv)]=H1 at *
  refine E9 (fun K=>Ext H1 K /\ ∃ F gs,Fld g r c (ks.map Aa) F gs) ?_ ?_
  · skip
    have e1:Ext H1 (H1++[.list ([].map rv)]):=⟨_,rfl⟩
    refine ((x.ext e1).run (d:=d+1) (xs:=[]) (Aj _ _) (fun _ h=>nomatch h) (Nat.zero_le _)).then ?_
    intro v K2 zz
    refine ex2 zz fun F gs zz=>Ad zz fun fd zz=>ex1 zz fun m' zz=>Cg zz fun zr4 _ e2 g2=>?_;subst zr4
    rw [show Ms ks (Bz (E1 g r c (ks.map Aa) F gs) (ks.map Aa) []).1=ks.map fun k=>(k,0) from Qh ks] at g2
    rw [wvr (v:=.tup [.loc m9,.int 0]) rfl,show (Bz (E1 g r c (ks.map Aa) F gs) (ks.map Aa) []).2=0 from rfl,Ic (Mt g2 ((e1.trans e2).get g9))]
    exact ⟨rfl,e1.trans e2,F,gs,fd⟩
  intro K zz
  refine Ad zz fun e2 zz=>ex2 zz fun F gs fd=>?_
  have x:=x.ext e2
  have gl:=e2.get gl
  have g9:=e2.get g9
  clear e2 e0
  refine Ak (fun v K'=>v=.loc K.length /\ K'=K++[.list (xs.map rv)]) ?_ ?_
  · skip
    exact Vv gl ⟨rfl,rfl⟩
  rintro v K' ⟨rfl,e⟩
  rw [e]
  clear e K'
  have e3:Ext K (K++[.list (xs.map rv)]):=⟨_,rfl⟩
  have g10:=Aj K (.list (xs.map rv))
  have b10:K.length < (K++[HObj.list (xs.map rv)]).length:=by rw [List.length_append];exact Nat.lt_succ_self _
  generalize K++[HObj.list (xs.map rv)]=K3 at *
  refine Ak (Agw g r c ks F gs xs K3) ?_ ?_
  · rw [Ay,wcv (v:=.loc o) rfl,wcv (v:=.loc K.length) rfl]
    exact (x.ext e3).runF (d:=d+1) fd g10 ok xl
  intro v K4 zz
  refine ex1 zz fun m11 zz=>Cg zz fun zr1 b11 e4 g11=>?_;subst zr1
  refine Ak (fun v K'=>∃ m12,v=.tup [.loc m12,.int (Bz (E1 g r c (ks.map Aa) F gs) (ks.map Aa) xs).2] /\ K4.length <= m12 /\ Ext K4 K' /\ K'[m12]?=some (.list ((Ms ks (Bz (E1 g r c (ks.map Aa) F gs) (ks.map Aa) xs).1).map rv))) ?_ ?_
  · have x4:=x.ext (e3.trans e4)
    refine (Rs (d:=d+4) x.s x.og x4.G x.n x4.m (by rw [List.length_map];exact kl) (fun v hv=>?_)).then ?_
    · refine ex1 (List.mem_map.mp hv) fun k zz=>Ad zz fun hk zr2=>?_;subst zr2
      obtain ⟨a,ha⟩:=x.d k hk
      exact ⟨k,a,rfl,ha⟩
    intro w K5 zz
    refine ex3 zz fun le es' F' zz=>Lp zz fun zr3 _ e5 ge hes lv=>?_;subst zr3
    obtain rfl:F'=F:=funext fun k=>lv.uniq fd.lv k
    refine (Ac3 (d:=d) (x4.ext e5) fd ge hes (((e3.trans e4).trans e5).get gl) ok xl).then ?_
    intro v K6 zz
    refine ex1 zz fun m12 zz=>Cg zz fun zr1 h12 e6 g12=>?_;subst zr1
    rw [Vu] at g12
    exact ⟨m12,rfl,Nat.le_trans e5.len h12,e5.trans e6,g12⟩
  intro v K6 zz
  refine ex1 zz fun m12 zz=>Cg zz fun zr1 b12 e6 g12=>?_;subst zr1
  refine Yp (d:=d) (e6.get g11) fun a13=>?_
  exact Ac4 (d:=d) x fd gl ok xl g9 ((e3.trans e4).trans e6) ((e4.trans e6).get g10) (Nat.lt_of_lt_of_le b10 b11) (Nat.lt_of_lt_of_le (Bq g11) b12) (e6.get g11) g12 rfl rfl
end
theorem KR.setL {K:Hp} {z:Nat} {ys ys':List Val} {v:Val} (x:KR K v) (gz:K[z]?=some (.list ys)):KR (K.set z (.list ys')) v:=by
  have kn:∀ {u:Val},Kn K u -> Kn (K.set z (.list ys')) u:=fun {u} k=>by
    cases u with
    | loc i =>
      obtain ⟨xs,hi⟩:=k
      by_cases e:z=i
      · subst e;exact ⟨_,Bb _ gz⟩
      · exact ⟨xs,Ao _ e hi⟩
    | _=>exact k
  rcases x with ⟨k,n⟩ | ⟨a,y,ev,kx,ky⟩
  · exact .inl ⟨kn k,n⟩
  · exact .inr ⟨a,y,ev,kn kx,ky⟩
section
variable {T:Tab} {Φ:Funs} {Γ:Env'} {H K:Hp} {Q:Val -> Hp -> Prop} {E:Nat -> Hp -> Prop} {d:Nat} {QS:Env' -> Hp -> Prop} {R:Val -> Hp -> Prop} {ES:Nat -> Env' -> Hp -> Prop} {l r c m o lg b s ls lr m9:Nat} {g:List (List Val)} {es es0 gs:List (Key × Val)} {v x0 x5:Val} {F:Key -> Option Int} {ks:List Key} {xs:List (Key × Int)} {a6 a7 a8 a10 a11 a12 a13:Option Val}
theorem Ac5 {xs:List Val} {k:Nat} (h:H[l]?=some (.list xs)) (q:Q (.loc H.length) (H++[.list (xs.take k)])):Wp (Gr (.loc l) .none (.int (k:Int))) H Q E:=by
  refine Wp.of_eq ?_ q
  unfold Gr
  rw [Jb h]
  have:V6 .none (.int (k:Int)) xs.length=some (false,k):=by
    show (if 0 <= (k:Int) then some (false,(k:Int).toNat) else none)=_
    rw [if_pos (by exact o48),Int.toNat_natCast]
  dsimp only
  skip;rfl
theorem Ac6 {xs:List Val} {k:Nat} (h:H[l]?=some (.list xs)) (q:Q (.loc H.length) (H++[.list (xs.drop k)])):Wp (Gr (.loc l) (.int (k:Int)) .none) H Q E:=by
  refine Wp.of_eq ?_ q
  unfold Gr
  rw [Jb h]
  have:V6 (.int (k:Int)) .none xs.length=some (true,k):=by
    show some (true,if 0 <= (k:Int) then (k:Int).toNat else _)=_
    rw [if_pos (by exact o48),Int.toNat_natCast]
  dsimp only
  skip;rfl
theorem Ac7 {f:Int} {k:Nat} (x:Lk H r c g ks l m o) (gl:H[lr]?=some (.list (xs.map rv))) (xl:xs.length <= 60)
    (q:∀ K z v j e,Ext H K -> H.length <= z -> K[z]?=some (.list ((xs.take k).map rv++v :: (xs.drop k).map rv)) -> Int.fmod (Int.fdiv f 28) 16=((j:Nat):Int) -> Yi[j]?=some e -> Odd K r c v e -> Q (.loc z) K) :
    wpE T_11 (Af T_11 (d+1)) (.bin .add (.bin .add (.slice (.var 4) .none (.some (.var 6))) (.list (.cons (.call 39 (.cons (.bin .fdiv (.var 5) (.int 28)) (.cons (.var 1) .nil))) .nil))) (.slice (.var 4) (.some (.var 6)) .none))
      [some x0,some (.loc l),some (.loc m),some (.loc o),some (.loc lr),some (.int f),some (.int (k:Int)),none,none,none,none,none,none,none] H Q E:=by
  refine Ac5 gl ?_
  have e1:Ext H (H++[.list ((xs.map rv).take k)]):=⟨_,rfl⟩
  have g1:=Aj H (.list ((xs.map rv).take k))
  generalize H++[HObj.list ((xs.map rv).take k)]=K1 at *
  refine ⟨by decide,?_⟩
  refine (Vt (d:=d) (Int.fdiv f 28) x.s x.og (x.G.ext e1)).then ?_
  intro v K2 zz
  refine Ad zz fun e2 zz=>ex2 zz fun j e zz=>Av zz fun hj he hO=>?_
  have e3:Ext K2 (K2++[.list [v]]):=⟨_,rfl⟩
  have lt:((xs.map rv).take k).length <= 60:=Nat.le_trans (List.length_take_le' _ _) (by rw [List.length_map];exact xl)
  refine Ib (e3.get (e2.get g1)) (Aj _ _) (by rw [List.length_singleton];exact Al8 lt) ?_
  have e4:=e3.new (.list ((xs.map rv).take k++[v]))
  have g4:=Aj (K2++[.list [v]]) (.list ((xs.map rv).take k++[v]))
  generalize K2++[HObj.list [v]]++[HObj.list ((xs.map rv).take k++[v])]=K4 at *
  refine Ac6 (((e1.trans e2).trans e4).get gl) ?_
  have e5:Ext K4 (K4++[.list ((xs.map rv).drop k)]):=⟨_,rfl⟩
  have ld:((xs.map rv).drop k).length <= 60:=by rw [List.length_drop,List.length_map];exact Ahv xl
  refine Ib (e5.get g4) (Aj _ _) (by rw [List.length_append,List.length_singleton];exact Al9 lt ld) ?_
  have e6:=e5.new (.list ((xs.map rv).take k++[v]++(xs.map rv).drop k))
  have eH:=((e1.trans e2).trans e4).trans e5
  refine q _ _ v j e (((e1.trans e2).trans e4).trans e6) eH.len ?_ hj he ⟨hO.1.ext (e4.trans e6),hO.2⟩
  rw [Aj,List.append_assoc,List.map_take,List.map_drop];rfl
theorem Ac8 {ns:List Int} {f:Int} {QS':Env' -> Hp -> Prop} (x:Lk H r c g ks l m o) (gl:H[lr]?=some (.list (xs.map rv))) (ok:∀ p∈xs,OkR r c p) (xl:xs.length <= 60) :
    wpSs T_11 (Af T_11 (d+7)) (.cons (.assign 6 (.bin .mod (.call 8 (.cons (.var 0) (.cons (.int 3) .nil))) (.bin .add (.bf .len (.cons (.var 4) .nil)) (.int 1)))) (.cons (.assign 7 (.bin .add (.bin .add (.slice (.var 4) .none (.some (.var 6))) (.list (.cons (.call 39 (.cons (.bin .fdiv (.var 5) (.int 28)) (.cons (.var 1) .nil))) .nil))) (.slice (.var 4) (.some (.var 6)) .none))) (.cons (.ite (.cmp .eq (.bin .mod (.bin .fdiv (.var 5) (.int 280)) (.int 2)) (.int 0)) (.cons (.expr (.bm (.var 7) .append (.cons (.call 39 (.cons (.bin .fdiv (.var 5) (.int 560)) (.cons (.var 1) .nil))) .nil))) .nil) .nil) (.cons (.assign 8 (.list (.cons (.str "cell") (.cons (.str "rain") (.cons (.str "rain") (.cons (.str "rain") (.cons (.str "rain") (.cons (.str "rain") (.cons (.str "cell") (.cons (.str "cell") (.cons (.str "cell") (.cons (.str "cell") .nil)))))))))))) (.cons (.assign 8 (.bin .add (.var 8) (.list (.cons (.str "cell") (.cons (.str "cell") (.cons (.str "rain") (.cons (.str "rain") (.cons (.str "cell") (.cons (.str "cell") .nil))))))))) (.cons (.ret (.some (.cmp .eq (.call 20 (.cons (.var 3) (.cons (.var 7) .nil))) (.sub (.var 8) (.bin .mod (.bin .fdiv (.var 5) (.int 28)) (.int 16)))))) .nil))))))
      [some (.script ns),some (.loc l),some (.loc m),some (.loc o),some (.loc lr),some (.int f),none,none,none,none,none,none,none,none] H QS' (fun v _=>v=.bool true) ES:=by
  refine Ak (fun v K=>K=H /\ ∃ k:Nat,v=.int (k:Int)) ?_ ?_
  · skip
    show Wp (Af T_11 (d+6+1) 8 [.script ns,.int ((3:Nat):Int)]) H _ _
    rw [Ew,B9,wbf (v:=.loc lr) rfl,A2 gl,A3]
    refine ex1 (Cm (Gx ns 3) ((xs.map rv).length+1) (Nat.succ_pos _)) fun k zz=>Ad zz fun hk _=>?_
    refine ⟨by exact Ama,rfl,k,?_⟩
    rw [<- hk];rfl
  rintro v K ⟨e,k,rfl⟩
  rw [e]
  clear e K
  refine Ak (fun u K=>∃ z v j e,u=.loc z /\ Ext H K /\ H.length <= z /\ K[z]?=some (.list ((xs.take k).map rv++v :: (xs.drop k).map rv)) /\ Int.fmod (Int.fdiv f 28) 16=((j:Nat):Int) /\ Yi[j]?=some e /\ Odd K r c v e) ?_ ?_
  · exact Ac7 (d:=d+6) x gl xl fun K z v j e ex hz gz hj he hO=>⟨z,v,j,e,rfl,ex,hz,gz,hj,he,hO⟩
  intro u K zz
  refine ex4 zz fun z v j e zz=>Mu zz fun zr4 ex hz gz hj he hO=>?_;subst zr4
  have kr:∀ {K':Hp},∀ w∈(xs.take k).map rv,KR K' w:=fun {K'} w hw=>by
    refine ex1 (List.mem_map.mp hw) fun p zz=>Ad zz fun _ zr2=>?_;subst zr2
    exact KR.rv p
  have kd:∀ {K':Hp},∀ w∈(xs.drop k).map rv,KR K' w:=fun {K'} w hw=>by
    refine ex1 (List.mem_map.mp hw) fun p zz=>Ad zz fun _ zr2=>?_;subst zr2
    exact KR.rv p
  refine Ce (fun Γ K'=>∃ ws,Γ=[some (.script ns),some (.loc l),some (.loc m),some (.loc o),some (.loc lr),some (.int f),some (.int (k:Int)),some (.loc z),none,none,none,none,none,none] /\ Ext H K' /\ K'[z]?=some (.list ((xs.take k).map rv++v :: ws)) /\ KR K' v /\ ∀ w∈ws,KR K' w) ?_ ?_
  · skip
    refine ⟨by decide,?_⟩
    refine ⟨by decide,?_⟩
    refine A7 (fun _=>?_) fun _=>⟨_,rfl,ex,gz,hO.1,kd⟩
    rw [Ag,Ev,Kw,wvr (v:=.loc z) rfl,Fn gz,Bo,Al,Ay,Al,B9,wvr (v:=.int f) rfl]
    refine ⟨by decide,?_⟩
    refine (Vt (d:=d+6) (Int.fdiv f 560) x.s x.og (x.G.ext ex)).then ?_
    intro u K2 zz
    refine Ad zz fun e2 zz=>ex2 zz fun j2 f2 zz=>Av zz fun _ _ hO2=>?_
    have gz2:=e2.get gz
    have l1:((xs.take k).map rv).length <= 60:=by rw [List.length_map];exact Nat.le_trans (List.length_take_le' _ _) xl
    have l2:((xs.drop k).map rv).length <= 60:=by rw [List.length_map,List.length_drop];exact Ahv xl
    refine Hu gz2 (by rw [List.length_append,List.length_cons];show _ < 16777216;exact Amc l1 l2) ?_
    refine ⟨(xs.drop k).map rv++[u],rfl,(ex.trans e2).set hz _,?_,(hO.1.ext e2).setL gz2,fun w hw=>?_⟩
    · rw [Bb _ gz2,List.append_assoc];rfl
    · rcases List.mem_append.mp hw with h | h
      · exact kd w h
      · rw [List.mem_singleton.mp h];exact hO2.1.setL gz2
  intro Γ K' zz
  refine ex1 zz fun ws zz=>Fc zz fun zr1 ex' gz' kv kw=>?_;subst zr1
  have h36:∀ e∈Yi,e=3 \/ e=6:=by decide
  have h36:=h36 e (List.mem_of_getElem? he)
  have hf:D7 r c ((xs.take k).map rv++v :: ws)=some e:=Vq (fun w hw=>by
    refine ex1 (List.mem_map.mp hw) fun p zz=>Ad zz fun hp zr2=>?_;subst zr2
    exact Afc (ok p (List.mem_of_mem_take hp))) hO.2
  refine Ak (fun u K2=>∃ y,u=.loc y /\ Ext K' K2 /\ K2[y]?=some (.list ((Yi.take 10).map fun e=>.str (wd e)))) ⟨_,rfl,⟨_,rfl⟩,Aj _ _⟩ ?_
  intro u K2 zz
  refine ex1 zz fun y zz=>Av zz fun zr1 e2 gy=>?_;subst zr1
  refine Ak (fun u K2=>∃ y,u=.loc y /\ Ext K' K2 /\ K2[y]?=some (.list (Yi.map fun e=>.str (wd e)))) ?_ ?_
  · skip
    show Ja .add (.loc y) (.loc K2.length) (K2++[.list ((Yi.drop 10).map fun e=>.str (wd e))]) _ _
    have e3:Ext K2 (K2++[.list ((Yi.drop 10).map fun e=>.str (wd e))]):=⟨_,rfl⟩
    exact Ib (e3.get gy) (Aj _ _) (by decide) ⟨_,rfl,e2.trans (e3.new _),Aj _ _⟩
  clear gy e2
  intro u K2 zz
  refine ex1 zz fun y zz=>Av zz fun zr1 e2 gy=>?_;subst zr1
  refine Ah fun G kG=>?_
  refine ex4 ((x.ext (ex'.trans e2)).L) fun lg b' ls es zz=>Ad zz fun L _=>?_
  refine kG ?_
  refine (Yl (d:=d+2) L (e2.get gz') (fun w hw=>?_) hf h36).then ?_
  · rcases List.mem_append.mp hw with h | h
    · exact kr w h
    · rcases List.mem_cons.mp h with rfl | h
      · exact kv.ext e2
      · exact (kw w h).ext e2
  rintro u K3 ⟨rfl,rfl⟩
  rw [A8,wvr (v:=.loc y) rfl,B9,B9,wvr (v:=.int f) rfl,A3,G5]
  refine ⟨by decide,?_⟩
  rw [A3,Kc]
  refine ⟨by decide,?_⟩
  rw [hj,De gy (by rw [List.getElem?_map,he];rfl)]
  rcases h36 with rfl | rfl
  · rw [show Dy .eq (.str (wd 3)) (.str (wd 3)) K3=some true by kernel_rfl,Bo]
  · rw [show Dy .eq (.str (wd 6)) (.str (wd 6)) K3=some true by kernel_rfl,Bo]
end
section
variable {H:Hp} {d:Nat}
theorem Ac9 (ns:List Int):Wp (Af T_11 (d+9) 22 [.script ns]) H (fun v _=>v=.bool true) NoE:=by
  rw [Ap (g:=Ul) rfl rfl,Ul]
  refine Ak _ (Xy (d:=d+5) ns) ?_
  intro _ H1 zz
  refine ex4 zz fun r c g l zz=>Fc zz fun zr4 hS hrc og G=>?_;subst zr4
  refine Ak _ (O9 (d:=d+6) ns hS og G) ?_
  intro _ H2 zz
  refine ex3 zz fun m n e zz=>Cg zz fun zr3 _ e2 hm=>?_;subst zr3
  have G:=G.ext e2
  have hks:∀ k∈(Gy r c).filter (Iw g r c n e),∃ a,hgt g r c k=some a:=fun k hk=>by
    have:=(List.mem_filter.mp hk).2
    unfold Iw at this
    cases ha:hgt g r c k with
    | none=>rw [ha] at this;cases this
    | some a=>exact ⟨a,rfl⟩
  have kl:((Gy r c).filter (Iw g r c n e)).length <= 63:=by
    have:=List.length_filter_le (Iw g r c n e) (Gy r c)
    rw [H6] at this;exact Amd hrc this
  refine Ak _ (Yg (d:=d) hS og (Nat.le_trans hrc (by decide)) G hm hks (by exact Ame kl)) ?_
  intro _ H3 zz
  refine ex5 zz fun o lg b' ls es zz=>Cg zz fun zr5 e3 L hin=>?_;subst zr5
  have x:Lk H3 r c g ((Gy r c).filter (Iw g r c n e)) l m o:=⟨hS,hrc,og,G.ext e3,e3.get hm,⟨lg,b',ls,es,L,Rt hin⟩,hks⟩
  clear hin L hm G e2 e3 hks kl
  generalize (Gy r c).filter (Iw g r c n e)=ks at *
  refine Ak _ (Yh (d:=d+6) ns hS og x.G) ?_
  intro _ H4 zz
  refine ex2 zz fun lr xs zz=>Lp zz fun zr2 _ e4 gl ok xl=>?_;subst zr2
  have x:=x.ext e4
  refine Ak (fun v K=>v=.int (Gx ns 0) /\ K=H4) ?_ ?_
  · rw [Ay,wcv (v:=.script ns) rfl,Al,A3,A5]
    show Wp (Af T_11 (d+7+1) 8 [.script ns,.int ((0:Nat):Int)]) H4 _ _
    rw [Ew]
    exact ⟨rfl,rfl⟩
  rintro _ K ⟨rfl,e5⟩
  rw [e5]
  clear e5 K
  rw [Ag,Bd,A4,B9,B9,wvr (v:=.int (Gx ns 0)) rfl,A3,G5]
  refine ⟨by decide,?_⟩
  rw [A3,Kc]
  refine ⟨by decide,?_⟩
  rw [A3,Ow,Ac]
  refine A7 (fun _=>?_) fun _=>?_
  · exact Ac8 (d:=d+1) x gl ok xl
  · rw [Bv]
    exact Yq (d:=d+1) x gl ok (Nat.le_trans xl (by decide))
end
theorem law_11 (ns:List Int) (hlen:ns.length <= 63):∃ H',Af T_11 20 22 [.script ns] []=.ok (.bool true) H':=by
  refine Ah fun G kG=>?_
  refine ex2 ((Ac9 (d:=11) (H:=[]) ns).get) fun v H' zz=>Ad zz fun e zr3=>?_;subst zr3
  refine kG ?_
  exact ⟨H',e⟩
end Mine.Internal.Pure
namespace Mine.Internal
open PySem PySem.W PySem.Calls
noncomputable def headAll (t:Addr -> Option Obj) (N:Names) (T:Tab) (cls:List Value) (attrs:List Str) (fns:List Addr) (nss:List (List Str)):Bool :=
  Tv t N T cls fns nss && Ld t N T attrs fns 0 cls && Mc N attrs && Pv t T cls && (t sysModules).isSome
noncomputable def fns_11:List Addr:=[28,35,40,47,139,146,280,287,306,313,320,327,334,339,346,358,363,370,377,398,405,410,415,158,165,172,193,205,210,231,238,245,252,259,266,294,299,353,384,391,186,200]
noncomputable def q_11:Program:=view PySem.Challenge.pw_uf020016_11 [PySem.Challenge.pw_uf020016_11.main.body.length - 1]
noncomputable def loose_11:List Str:=(PySem.Challenge.pw_uf020016_11.main.scope.names.map (·.1)).filter (· != "law")
set_option maxRecDepth 100000
set_option maxHeartbeats 0
theorem left_11:LeftO PySem.Challenge.pw_uf020016_11 q_11 loose_11 (fun s=>recOk [] s) (fun s=>headAll s.heap.get? N_11 T_11 [.ref 57,.ref 70,.ref 82,.ref 94,.ref 106,.ref 118,.ref 130,.ref 213,.ref 269,.type "ValueError"] ["rows","columns","grid","sinks","heap"] fns_11 V_11) (fun _=>true) 9000 true:=by
  refine Abr (M:=8000) (by kernel_rfl) (by kernel_rfl) (fun s=>by kernel_rfl) (by kernel_rfl) ?_
  intro w os
  rw [PySem.W.Fast.te4187177175401517315]
  kernel_rfl
theorem said_11:PySem.Challenge.rw_uf020016_11.wellSaid=true:=by
  rw [PySem.W.Fast.te9446332074065402090]
  kernel_rfl
noncomputable def I6:DefRec × List (Str × Expr):=(defOf q_11 "law").get (by kernel_rfl)
theorem hdef_11:defOf q_11 "law"=some (I6.1,I6.2):=by kernel_rfl
theorem hp_11:PySem.Challenge.pw_uf020016_11.theDef "law"=some (I6.1.params,I6.1.body,I6.1.scope):=by kernel_rfl
theorem hk_11:kwWritten? I6.1.params.kwonlyargs I6.1.params.kw_defaults=some I6.2:=by kernel_rfl
end Mine.Internal
open PySem PySem.W PySem.W.X PySem.W.ZRun PyProof.Rows
set_option maxRecDepth 100000 in
set_option maxHeartbeats 0 in
theorem PySem.Challenge.cw_uf020016_11_holds : PySem.Challenge.rw_uf020016_11.Holds := by
  refine holds_law Mine.Internal.said_11 fun Yw => ?_
  refine holds_openX (q := Mine.Internal.q_11) (loose := Mine.Internal.loose_11) (Xt := fun s => recOk [] s) (XP := fun _ _ => True) (N := 9000) Mine.Internal.left_11 (fun _ _ => trivial) (fun _ _ _ h _ => h) Mine.Internal.hdef_11 Mine.Internal.hp_11 Mine.Internal.hk_11 (fun s e => recFacts_of e) rfl Yw (by decide +kernel) ⟨rfl, rfl, rfl, rfl, rfl, by decide +kernel⟩ ?hw ?hc
  case hw => exact ⟨[.list []], by decide +kernel, by decide +kernel⟩
  intro w s₀ s₁ mg mb G y fa o pm cd doc dV kV ho hd hcd hD hmg hg args vals as L hpre hlay hrd hwl hlo
  refine Ground.open G ?_
  intro T B D TE TW
  wrow_args hpre hlay hrd hwl hlo
  have y' : Mine.Internal.headAll s₀.heap.get? Mine.Internal.N_11 Mine.Internal.T_11 [.ref 57, .ref 70, .ref 82, .ref 94, .ref 106, .ref 118, .ref 130, .ref 213, .ref 269, .type "ValueError"] ["rows", "columns", "grid", "sinks", "heap"] Mine.Internal.fns_11 Mine.Internal.V_11 = true := y
  unfold Mine.Internal.headAll at y'
  simp only [Bool.and_eq_true] at y'
  obtain ⟨⟨⟨⟨y1, y2⟩, y3⟩, yx⟩, y4⟩ := y'
  refine Mine.Internal.finish (t := s₀.heap.get?) (N := Mine.Internal.N_11) (T := Mine.Internal.T_11) (cls := [.ref 57, .ref 70, .ref 82, .ref 94, .ref 106, .ref 118, .ref 130, .ref 213, .ref 269, .type "ValueError"]) (attrs := ["rows", "columns", "grid", "sinks", "heap"]) (fns := Mine.Internal.fns_11) (nss := Mine.Internal.V_11) (k := 22) (d := 20) L.keeps T.g T.b T.builtins T.nolimit y1 y2 y3 yx y4 (script_obj L (by assumption)) (by assumption) (by omega) hmg rfl ⟨rfl, by decide, by decide⟩ (Mine.Internal.Pure.law_11 _ (by omega)) ?_
  intro s' hk ho' hg'
  exact ⟨.inl ⟨_, .bool true, [], rfl, raisesW_false (by wrow_none_raised), .bool true, by wrow_post, fun _ => ⟨List.nodup_nil, fun a ha => by cases ha⟩⟩, .of_keep hk, ho', .of_eq (hg'.trans hg)⟩
