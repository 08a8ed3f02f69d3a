import PyProof.Rows.All
import PyProof.StrBlock
import PyProof.StrBlockI
import PyProof.StrBlockL
import PyProof.P3Statements
import PyProof.RaisesMany
import PyProof.ExcArgsOwn
import KE.KIsNot
import PyProof.DictRoadsH
import PyProof.DictKinds
import PyProof.InstLoad
import PyProof.ObjNew
import PyProof.Cells
import PyProof.WalksMore
import PyProof.Calls
import PyProof.DefCall
import PyProof.ListMulRoad
import PyProof.Rows.ListMul
import PyProof.ExcClass2
import PyProof.ExcBaseAll.ValueError
import PyProof.TupleKey
import PyProof.IsiSeqPairs
import PyProof.IsiNone
import PyProof.TupleOfSeq
import PyProof.ListRange
import PyProof.WalkInts
import PyProof.CallRoads
import PyProof.RulesTry
import PyProof.StrWalks
import PyProof.MinMaxWalk
import KE.KDictSum
import PyProof.Rows.SortRuns
import OpenK.KMore
import KE.KSortTup
import PyProof.RulesDelMore
import PyProof.CompFree
import PyProof.CompUse
import PyProof.LetGo
import PyProof.AssignAttr
import PyProof.InstStoreFacts
import PyProof.WalksPairs
import PyProof.ZipIter
import PyProof.EnumFor
import PyProof.ListIndex
import PyProof.RulesAs
import Open.FastRun
import Lean
import Wide.All
import OpenK.AllK
import Wide.FinOn
import Lean
import PySem.Challenge.RW_uf020016_06
set_option Elab.async false
set_option autoImplicit false
set_option genSizeOfSpec false
set_option genSizeOf false
set_option backward.match.sparseCases false
set_option genInjectivity false
set_option tactic.hygienic false
set_option bootstrap.genMatcherCode false
set_option linter.all false
set_option linter.unusedSimpArgs false
namespace Mine.Internal
noncomputable def zA:=@Nat.lt_of_le_of_lt
noncomputable def zB:=@PySem.wpAny_bind
noncomputable def zC:=@Nat.le_trans
noncomputable def zD:=@Nat.lt_of_lt_of_le
noncomputable def zE:=@PySem.wpAny_mono
noncomputable def zF:=@List.mem_of_getElem?
noncomputable def zG:=@Nat.le_of_eq
noncomputable def zH:=@PySem.wpAny_pure
noncomputable def zI:=@Nat.le_refl
noncomputable def zJ:=@Nat.add_le_add_left
noncomputable def zK:=@Nat.le_of_lt_succ
noncomputable def zL:=@Nat.le_of_lt
noncomputable def zM:=@Nat.le_add_right
theorem ex1{α1:Sort _}{p:α1->Prop}{G:Prop}(h:∃ x1:α1,p x1)(k:(x1:α1)->p x1->G):G:=h.elim fun x1 h=>k x1 h
theorem ex2{α1 α2:Sort _}{p:α1->α2->Prop}{G:Prop}(h:∃ x1:α1,∃ x2:α2,p x1 x2)(k:(x1:α1)->(x2:α2)->p x1 x2->G):G:=h.elim fun x1 h=>h.elim fun x2 h=>k x1 x2 h
theorem ex3{α1 α2 α3:Sort _}{p:α1->α2->α3->Prop}{G:Prop}(h:∃ x1:α1,∃ x2:α2,∃ x3:α3,p x1 x2 x3)(k:(x1:α1)->(x2:α2)->(x3:α3)->p x1 x2 x3->G):G:=h.elim fun x1 h=>h.elim fun x2 h=>h.elim fun x3 h=>k x1 x2 x3 h
theorem ex4{α1 α2 α3 α4:Sort _}{p:α1->α2->α3->α4->Prop}{G:Prop}(h:∃ x1:α1,∃ x2:α2,∃ x3:α3,∃ x4:α4,p x1 x2 x3 x4)(k:(x1:α1)->(x2:α2)->(x3:α3)->(x4:α4)->p x1 x2 x3 x4->G):G:=h.elim fun x1 h=>h.elim fun x2 h=>h.elim fun x3 h=>h.elim fun x4 h=>k x1 x2 x3 x4 h
theorem ex5{α1 α2 α3 α4 α5:Sort _}{p:α1->α2->α3->α4->α5->Prop}{G:Prop}(h:∃ x1:α1,∃ x2:α2,∃ x3:α3,∃ x4:α4,∃ x5:α5,p x1 x2 x3 x4 x5)(k:(x1:α1)->(x2:α2)->(x3:α3)->(x4:α4)->(x5:α5)->p x1 x2 x3 x4 x5->G):G:=h.elim fun x1 h=>h.elim fun x2 h=>h.elim fun x3 h=>h.elim fun x4 h=>h.elim fun x5 h=>k x1 x2 x3 x4 x5 h
theorem ex6{α1 α2 α3 α4 α5 α6:Sort _}{p:α1->α2->α3->α4->α5->α6->Prop}{G:Prop}(h:∃ x1:α1,∃ x2:α2,∃ x3:α3,∃ x4:α4,∃ x5:α5,∃ x6:α6,p x1 x2 x3 x4 x5 x6)(k:(x1:α1)->(x2:α2)->(x3:α3)->(x4:α4)->(x5:α5)->(x6:α6)->p x1 x2 x3 x4 x5 x6->G):G:=h.elim fun x1 h=>h.elim fun x2 h=>h.elim fun x3 h=>h.elim fun x4 h=>h.elim fun x5 h=>h.elim fun x6 h=>k x1 x2 x3 x4 x5 x6 h
theorem ex7{α1 α2 α3 α4 α5 α6 α7:Sort _}{p:α1->α2->α3->α4->α5->α6->α7->Prop}{G:Prop}(h:∃ x1:α1,∃ x2:α2,∃ x3:α3,∃ x4:α4,∃ x5:α5,∃ x6:α6,∃ x7:α7,p x1 x2 x3 x4 x5 x6 x7)(k:(x1:α1)->(x2:α2)->(x3:α3)->(x4:α4)->(x5:α5)->(x6:α6)->(x7:α7)->p x1 x2 x3 x4 x5 x6 x7->G):G:=h.elim fun x1 h=>h.elim fun x2 h=>h.elim fun x3 h=>h.elim fun x4 h=>h.elim fun x5 h=>h.elim fun x6 h=>h.elim fun x7 h=>k x1 x2 x3 x4 x5 x6 x7 h
theorem ex8{α1 α2 α3 α4 α5 α6 α7 α8:Sort _}{p:α1->α2->α3->α4->α5->α6->α7->α8->Prop}{G:Prop}(h:∃ x1:α1,∃ x2:α2,∃ x3:α3,∃ x4:α4,∃ x5:α5,∃ x6:α6,∃ x7:α7,∃ x8:α8,p x1 x2 x3 x4 x5 x6 x7 x8)(k:(x1:α1)->(x2:α2)->(x3:α3)->(x4:α4)->(x5:α5)->(x6:α6)->(x7:α7)->(x8:α8)->p x1 x2 x3 x4 x5 x6 x7 x8->G):G:=h.elim fun x1 h=>h.elim fun x2 h=>h.elim fun x3 h=>h.elim fun x4 h=>h.elim fun x5 h=>h.elim fun x6 h=>h.elim fun x7 h=>h.elim fun x8 h=>k x1 x2 x3 x4 x5 x6 x7 x8 h
theorem Xh{α1 α2 α3 α4 α5 α6 α7 α8 α9 α10 α11 α12 α13 α14:Sort _}{p:α1->α2->α3->α4->α5->α6->α7->α8->α9->α10->α11->α12->α13->α14->Prop}{G:Prop}(h:∃ x1:α1,∃ x2:α2,∃ x3:α3,∃ x4:α4,∃ x5:α5,∃ x6:α6,∃ x7:α7,∃ x8:α8,∃ x9:α9,∃ x10:α10,∃ x11:α11,∃ x12:α12,∃ x13:α13,∃ x14:α14,p x1 x2 x3 x4 x5 x6 x7 x8 x9 x10 x11 x12 x13 x14)(k:(x1:α1)->(x2:α2)->(x3:α3)->(x4:α4)->(x5:α5)->(x6:α6)->(x7:α7)->(x8:α8)->(x9:α9)->(x10:α10)->(x11:α11)->(x12:α12)->(x13:α13)->(x14:α14)->p x1 x2 x3 x4 x5 x6 x7 x8 x9 x10 x11 x12 x13 x14->G):G:=h.elim fun x1 h=>h.elim fun x2 h=>h.elim fun x3 h=>h.elim fun x4 h=>h.elim fun x5 h=>h.elim fun x6 h=>h.elim fun x7 h=>h.elim fun x8 h=>h.elim fun x9 h=>h.elim fun x10 h=>h.elim fun x11 h=>h.elim fun x12 h=>h.elim fun x13 h=>h.elim fun x14 h=>k x1 x2 x3 x4 x5 x6 x7 x8 x9 x10 x11 x12 x13 x14 h
theorem Ac{p1 p2 G:Prop}(h:p1/\p2)(k:p1->p2->G):G:=k (h.1) (h.2)
theorem Ap{p1 p2 p3 G:Prop}(h:p1/\p2/\p3)(k:p1->p2->p3->G):G:=k (h.1) (h.2.1) (h.2.2)
theorem Cl{p1 p2 p3 p4 G:Prop}(h:p1/\p2/\p3/\p4)(k:p1->p2->p3->p4->G):G:=k (h.1) (h.2.1) (h.2.2.1) (h.2.2.2)
theorem Ep{p1 p2 p3 p4 p5 G:Prop}(h:p1/\p2/\p3/\p4/\p5)(k:p1->p2->p3->p4->p5->G):G:=k (h.1) (h.2.1) (h.2.2.1) (h.2.2.2.1) (h.2.2.2.2)
theorem Lx{p1 p2 p3 p4 p5 p6 G:Prop}(h:p1/\p2/\p3/\p4/\p5/\p6)(k:p1->p2->p3->p4->p5->p6->G):G:=k (h.1) (h.2.1) (h.2.2.1) (h.2.2.2.1) (h.2.2.2.2.1) (h.2.2.2.2.2)
theorem Ov{p1 p2 p3 p4 p5 p6 p7 G:Prop}(h:p1/\p2/\p3/\p4/\p5/\p6/\p7)(k:p1->p2->p3->p4->p5->p6->p7->G):G:=k (h.1) (h.2.1) (h.2.2.1) (h.2.2.2.1) (h.2.2.2.2.1) (h.2.2.2.2.2.1) (h.2.2.2.2.2.2)
theorem Abm{p1 p2 p3 p4 p5 p6 p7 p8 p9 p10 G:Prop}(h:p1/\p2/\p3/\p4/\p5/\p6/\p7/\p8/\p9/\p10)(k:p1->p2->p3->p4->p5->p6->p7->p8->p9->p10->G):G:=k (h.1) (h.2.1) (h.2.2.1) (h.2.2.2.1) (h.2.2.2.2.1) (h.2.2.2.2.2.1) (h.2.2.2.2.2.2.1) (h.2.2.2.2.2.2.2.1) (h.2.2.2.2.2.2.2.2.1) (h.2.2.2.2.2.2.2.2.2)
theorem Xi{p1 p2 p3 p4 p5 p6 p7 p8 p9 p10 p11 G:Prop}(h:p1/\p2/\p3/\p4/\p5/\p6/\p7/\p8/\p9/\p10/\p11)(k:p1->p2->p3->p4->p5->p6->p7->p8->p9->p10->p11->G):G:=k (h.1) (h.2.1) (h.2.2.1) (h.2.2.2.1) (h.2.2.2.2.1) (h.2.2.2.2.2.1) (h.2.2.2.2.2.2.1) (h.2.2.2.2.2.2.2.1) (h.2.2.2.2.2.2.2.2.1) (h.2.2.2.2.2.2.2.2.2.1) (h.2.2.2.2.2.2.2.2.2.2)
theorem Ag4{p1 p2 p3 p4 p5 p6 p7 p8 p9 p10 p11 p12 p13 p14 G:Prop}(h:p1/\p2/\p3/\p4/\p5/\p6/\p7/\p8/\p9/\p10/\p11/\p12/\p13/\p14)(k:p1->p2->p3->p4->p5->p6->p7->p8->p9->p10->p11->p12->p13->p14->G):G:=k (h.1) (h.2.1) (h.2.2.1) (h.2.2.2.1) (h.2.2.2.2.1) (h.2.2.2.2.2.1) (h.2.2.2.2.2.2.1) (h.2.2.2.2.2.2.2.1) (h.2.2.2.2.2.2.2.2.1) (h.2.2.2.2.2.2.2.2.2.1) (h.2.2.2.2.2.2.2.2.2.2.1) (h.2.2.2.2.2.2.2.2.2.2.2.1) (h.2.2.2.2.2.2.2.2.2.2.2.2.1) (h.2.2.2.2.2.2.2.2.2.2.2.2.2)
theorem Agq{a b c d:Nat}(h:b<c):a+b+(c-b+d)=a+c+d:=(Nat.add_assoc (a+b) (c - b) d).symm.trans (congrArg (·+d) ((Nat.add_assoc a b (c - b)).trans (congrArg (a+·) (Nat.add_sub_cancel' (zL h)))))
theorem Akk{a c:Nat}:a+1+20 * c+100<=a+20 * (c+1)+100:=Nat.add_le_add_right (zC (zG (Nat.add_right_comm _ _ _)) (zJ (by decide:1<=20) (a+20 * c))) 100
theorem Agr{a b c k m n:Nat}(h:a+b+n < c)(w:k+m<=n):a+k+b+m < c:=zA (zC (zG ((congrArg (·+m) (Nat.add_right_comm a k b)).trans (Nat.add_assoc _ k m))) (zJ w (a+b))) h
theorem Ags{a m n c:Nat}(h:a+n < c)(w:m<=n):a+m < c:=zA (zJ w a) h
theorem Agt{a:Nat}:-(1073741824:Int)<=a:=Int.le_trans (by decide:-(1073741824:Int)<=0) (Int.natCast_nonneg a)
theorem o1{a b:Nat}(h0:a<b+1)(h1:¬(a<b)):a=b:=Nat.le_antisymm (zK h0) (Nat.not_lt.mp h1)
theorem o2{a b c:Nat}(h0:a+5*b+150<c):a+5*b+147<c:=Ags h0 (by decide)
theorem o3{a b c:Nat}(h0:a+20*b+100<c):a+20*b+90<c:=zA (zJ (by decide) _) h0
theorem o4{a b c:Nat}(h0:a+5*(b+1)+150<c):a+5*b+150<c:=zA (Nat.add_le_add_right (zJ (Nat.mul_le_mul_left 5 (Nat.le_succ b)) a) 150) h0
theorem o5{a b c:Nat}(h0:a+20*(b+1)+100<c):a+1+20*b+100<c:=zA Akk h0
theorem o6{x0:Int}(h0:¬(x0=(0:Int)∨1073741824≤(Int.natAbs x0))):(Int.natAbs x0)<1073741824:=Nat.not_le.mp fun z=>h0 (.inr z)
theorem o7{a b:Nat}(h0:a+100<b):a+64<b:=Ags h0 (by decide)
theorem o8{a b:Nat}(h0:a+100<b):a+1+6<b:=Ags (m:=7) h0 (by decide)
theorem o9{a b:Nat}(h0:a+100<b):a+1<b:=zA (zJ (by decide) a) h0
theorem o10{a b:Nat}(h0:a+10<b):a+6<b:=Ags h0 (by decide)
theorem o11{a b c:Nat}(h0:a+20+(c+1)<b):a<b:=Nat.lt_trans (zD (Nat.lt_add_of_pos_right (by decide)) (zM _ _)) h0
theorem o12{a b c:Nat}(h0:a+20+(c+1)<b):a+1+10<b:=zA (zC (zJ (by decide:11<=20) a) (zM _ _)) h0
theorem o13{a b c:Nat}(h0:a+20+(b+1)<c):a+1+20+b<c:=zA (zG (Nat.add_right_comm (a+20) 1 b)) h0
theorem o14{a b:Nat}(h0:a+100<b):a+20+6<b:=zA (zJ (by decide:26<=100) a) h0
theorem o15{x0:Int}(h0:¬((0:Int)≤x0)):x0<(0:Int):=Int.not_le.mp h0
theorem o16{a:Nat}{x0:Int}(h0:(0:Int)≤x0)(h1:(Int.toNat x0)<a):x0<(a:Int):=(Int.toNat_lt h0).mp h1
theorem o17{a b c d:Nat}(h0:a<c)(h1:c=b)(h2:d=b):a<b:=zD h0 (zG h1)
theorem o18{x0 x1:Int}(h0:(-x1)≤x0)(h1:x0<x1)(h2:x0≤(100000:Int)):(Int.toNat x0)≤16777216:=zC (Int.toNat_le.mpr h2:_<=100000) (by decide)
theorem o19{a:Nat}(h0:a≤20):a<30:=zA h0 (by decide:20 < 30)
theorem o20{a b c:Nat}(h0:a=c)(h1:a≤b):a-1≤b:=zC (Nat.sub_le _ _) h1
theorem o21{a:Nat}:a≤a-1+1:=Nat.le_add_of_sub_le (zI _)
theorem o22{a:Nat}(h0:a≤1000):a≤16777216:=zL (zA h0 (by decide:1000 < 16777216))
theorem o23{a:Nat}(h0:a=6):1<a:=zD (by decide:1 < 6) (zG h0.symm)
theorem o24{a:Nat}(h0:a=11):3<a:=h0▸(by decide:3 < 11)
theorem o25{a b:Nat}(h0:a<b)(h1:a=b):False:=Nat.lt_irrefl _ (zD h0 (zG h1.symm))
theorem o26{a b c:Nat}(h0:a+5*(b+1)+147<c):a+1+5*b+150<c:=Agr (b:=5 * b) (n:=152) h0 (by decide)
theorem o27{a b c:Nat}(h0:a+20*(b+1)+90<c):a+3+20*b+100<c:=Agr (b:=20 * b) (n:=110) h0 (by decide)
theorem o28{a b c:Nat}(h0:a+c=b):a=(min a b):=(Nat.min_eq_left (h0▸zM _ _)).symm
theorem o29{a b c d:Nat}(h0:a+c=d)(h1:¬(b<a)):a≤b:=Nat.not_lt.mp h1
theorem o30{a b c:Nat}(h0:a+5*(c+1)+147<b):a<b:=zA (zC (zM _ _) (zM _ _)) h0
theorem o31{a:Nat}{x0:Int}(h0:a<(Int.toNat x0)):(0:Int)<(((Int.toNat x0):Nat):Int)-(a:Int):=Int.sub_pos_of_lt (Int.ofNat_lt.mpr h0)
theorem o32{a:Nat}:((a+1:Nat):Int)=(a:Int)+(1:Int):=rfl
theorem o33{a:Nat}{x0:Int}:(((Int.toNat x0):Nat):Int)-((a+1:Nat):Int)=(((Int.toNat x0):Nat):Int)-(a:Int)-(1:Int):=(Int.sub_sub (x0.toNat:Int) a 1).symm
theorem o34{a b c:Nat}(h0:c=a)(h1:c≤b):a≤b:=zC (zG h0.symm) h1
theorem o35{a:Nat}{x0:Int}(h0:x0≤(a:Int)):(((Int.toNat x0):Nat):Int)-(a:Int)≤(0:Int):=Int.sub_nonpos_of_le (Int.ofNat_le.mpr (Int.toNat_le.mpr h0))
theorem o36{a b:Nat}(h0:¬(b≤a)):a+(b-a)/2<b:=Nat.add_lt_of_lt_sub' (Nat.div_lt_self (Nat.sub_pos_of_lt (Nat.not_le.mp h0)) Nat.one_lt_two)
theorem o37{a b c d:Nat}(h0:a-b≤c-d)(h1:¬(a≤b)):a-(b+(a-b)/2+1)≤c-(d+1):=Nat.sub_le_sub_right (zC (Nat.sub_le_sub_left (zM b _) a) h0) 1
theorem o38{a b c d:Nat}(_:b-a≤c-d)(_:¬(b≤a)):a+(b-a)/2-a≤c-(d+1):=by omega
theorem o39{a b:Nat}(h0:b+1≤a):a<2*a+1∧b+1+1≤2*a+1:=⟨Nat.lt_succ_of_le (Nat.le_mul_of_pos_left _ Nat.two_pos),Nat.succ_le_succ (zC h0 (Nat.le_mul_of_pos_left _ Nat.two_pos))⟩
theorem o40{a0 a1 a2:Nat}(h0:¬(a1 ≥ (a2 - a0))):(a0+a1) < a2:=Nat.add_lt_of_lt_sub' (Nat.not_le.mp h0)
theorem o41{a0 a1:Nat}(h0:¬(a0 ≥ (a1+1))):a0<=a1:=zK (Nat.not_le.mp h0)
theorem o42{a b c d:Nat}(h0:a+b<d)(h1:b<c):a+b+1≤a+(min c (d-a)):=Nat.add_lt_add_left (Nat.lt_min.mpr ⟨h1,Nat.lt_sub_of_add_lt (zA (zG (Nat.add_comm b a)) h0)⟩) a
theorem o43{a b c d:Nat}(h0:a+d<c):a+(min b (c-a))≤c:=zC (zJ (Nat.min_le_right _ _) a) (zG (Nat.add_sub_cancel' (zC (zM a d) (zL h0))))
theorem o44{a b c d:Nat}(h0:a+d<c):a+(min b (c-a))-(a+d+1)≤c-0:=zC (Nat.sub_le _ _) (zC (zJ (Nat.min_le_right _ _) a) (zG (Nat.add_sub_cancel' (zC (zM a d) (zL h0)))))
theorem o45{a b c d a4:Nat}(h0:a+(min b (c-a))≤d)(h1:a+a4<c)(h2:c-a≤b)(h3:d<c):False:=absurd h3 (Nat.not_lt.mpr (zC (zG ((congrArg (a+·) (Nat.min_eq_right h2)).trans (Nat.add_sub_cancel' (zC (zM a a4) (zL h1)))).symm) h0))
theorem o46{a b c d a4:Nat}(h0:a+(min b (d-a))≤c)(h1:a+a4<d)(h2:c<d):a+b≤c:=(Nat.le_total b (d - a)).elim (fun h=>zC (zG (congrArg (a+·) (Nat.min_eq_left h).symm)) h0) fun h=>absurd h2 (Nat.not_lt.mpr (zC (zG ((congrArg (a+·) (Nat.min_eq_right h)).trans (Nat.add_sub_cancel' (zC (zM a a4) (zL h1)))).symm) h0))
theorem o47{a b c:Nat}(h0:c<b)(h1:c≤a):a+1-(min b (a+1))≤a-c:=zC (Nat.sub_le_sub_left (Nat.le_min.mpr ⟨h0,Nat.succ_le_succ h1⟩) (a+1)) (zG (Nat.add_sub_add_right a 1 c))
theorem o48{a b c:Nat}(h0:a<c)(h1:b≤a):a-b≤c:=zL (zA (Nat.sub_le _ _) h0)
theorem o49{a b c d:Nat}(h0:a<d):a-b-(a+1-(min c (a+1)))≤d-0:=Nat.le_sub_of_add_le' (zL (zA (zC (zC (zG (Nat.zero_add _)) (Nat.sub_le _ _)) (Nat.sub_le _ _)) h0))
theorem o50{a b c:Nat}(h0:a+1≤b)(h1:c<a+1-(min b (a+1))):False:=Nat.not_lt_zero _ (Nat.lt_of_lt_of_eq h1 (Nat.sub_eq_zero_of_le (Nat.le_min.mpr ⟨h0,zI _⟩)))
theorem o51{a b c:Nat}(h0:(max 0 a)+1≤c)(h1:b<a):a-b≤c:=zL (zA (zC (Nat.sub_le _ _) (Nat.le_max_right _ _)) h0)
theorem o52{a b c:Nat}(h0:(max 0 c)+1≤b)(h1:a<c):a+1≤b:=zL (zD (Nat.add_lt_add_right (zD h1 (Nat.le_max_right _ _)) _) h0)
theorem o53{a b c:Nat}(h0:a<c)(h1:c<b):a<b:=Nat.lt_trans h0 h1
theorem o54{a b:Nat}:a≤a+b:=zM _ _
theorem o55{a b c d:Nat}(h0:a<(min b (c-d))):a<b:=zD h0 (Nat.min_le_left _ _)
theorem o56{a b c d:Nat}(h0:b<(min d (c-a))):a+b<c:=Nat.add_lt_of_lt_sub' (zD h0 (Nat.min_le_right _ _))
theorem o57{a b c d:Nat}(h0:a+c≤d):a+b+(min c (d-a))=a+c+b:=(congrArg ((a+b)+·) (Nat.min_eq_left (Nat.le_sub_of_add_le' h0))).trans (Nat.add_right_comm a b c)
theorem o58{a b c d a4:Nat}(h0:a+c+b=a4+d):a+b+c=d+a4:=Nat.le_antisymm (zC (zC (zG (Nat.add_right_comm _ _ _)) (zG h0)) (zG (Nat.add_comm _ _))) (zC (zC (zG (Nat.add_comm _ _)) (zG h0.symm)) (zG (Nat.add_right_comm _ _ _)))
theorem o59{a b c:Nat}(h0:a≤c)(h1:c≤b):a≤b:=zC h0 h1
theorem o60{a b c d a4 a5:Nat}(_:d+a+a4=b+a5)(_:c≤a)(_:a≤b):(min a b)-c+d+c+a4=b+a5:=by grind
theorem o61{a b:Nat}(h0:a≤b)(h1:¬(a=b)):a<b:=Nat.lt_of_le_of_ne h0 h1
theorem o62{a b:Nat}(h0:a<b):a+1≤b:=h0
theorem o63{a b:Nat}(h0:a≤b):a+(b-a)≤b:=zG (Nat.add_sub_cancel' h0)
theorem o64{a b:Nat}(h0:a+1=b):a<b:=zG h0
theorem o65{a b:Nat}(h0:a≤b):a+(b-a)=b:=Nat.add_sub_of_le h0
theorem o66{a b:Nat}(h0:b+1=a):a-1=b:=Nat.le_antisymm (Nat.sub_le_of_le_add (zG h0.symm)) (Nat.le_sub_one_of_lt (zG h0))
theorem o67{a b c:Nat}(h0:1≤c)(h1:b<c-a)(h2:a≤c):a+b≤c-1:=Nat.le_sub_one_of_lt (Nat.add_lt_of_lt_sub' h1)
theorem o68{a:Nat}(h0:1≤a):a-1<a:=Nat.sub_lt (zD (by decide:0 < 1) h0) Nat.one_pos
theorem o69{a b c d:Nat}(h0:a+d≤c)(h1:b<d):a+b<c:=zD (Nat.add_lt_add_left h1 _) h0
theorem o70{a b c:Nat}(h0:b<c):a+b<a+c:=Nat.add_lt_add_of_le_of_lt (zI _) h0
theorem o71{a b c d:Nat}(h0:c+d≤b)(h1:a<c+d):a<b:=zD h1 h0
theorem o72{a b c:Nat}(h0:a+1<c)(h1:b≤c-a):a+b≤c:=Nat.add_le_of_le_sub' (zL (Nat.lt_trans (Nat.lt_succ_self _) h0)) h1
theorem o73{a0 a1 a2:Nat}(h0:((a0+a1)+1)≠a2)(h1:(a0+1) < a2)(h2:(a0+a1)≠a2)(h3:a1<=(a2 - a0)):((a0+a1)+1) < a2:=Nat.lt_of_le_of_ne (Nat.lt_of_le_of_ne (Nat.add_le_of_le_sub' (zL (Nat.lt_of_succ_lt h1)) h3) h2) h0
theorem o74{a0 a1 a2:Nat}(h0:((a2+a0)+1)≠a1)(h1:(a2+1) < a1)(h2:(a2+a0)≠a1)(h3:a0<=(a1 - a2)):a0 < (a1 - a2):=Nat.lt_of_le_of_ne h3 fun e=>h2 ((congrArg (a2+·) e).trans (Nat.add_sub_cancel' (zL (Nat.lt_of_succ_lt h1))))
theorem o75{a b c:Nat}(h0:a<c)(h1:b≤c-a):a+b≤c:=Nat.add_le_of_le_sub' (zL h0) h1
theorem o76{a0 a1 a2:Nat}(h0:(a0+a1)≠a2)(h1:a0 < a2)(h2:a1<=(a2 - a0)):(a0+a1) < a2:=Nat.lt_of_le_of_ne (Nat.add_le_of_le_sub' (zL h1) h2) h0
theorem o77{a0 a1 a2:Nat}(h0:(a2+a0)≠a1)(h1:a2 < a1)(h2:a0<=(a1 - a2)):a0 < (a1 - a2):=Nat.lt_of_le_of_ne h2 fun e=>h0 ((congrArg (a2+·) e).trans (Nat.add_sub_cancel' (zL h1)))
theorem o78{a b c:Nat}(h0:b<c-a):a+b<c:=Nat.add_lt_of_lt_sub' h0
theorem o79{a:Nat}:a≤a+1:=zL (Nat.lt_succ_self _)
theorem o80{a b:Nat}(h0:a+1≤b):a<b:=h0
theorem o81{a b:Nat}(h0:1≤b)(h1:a<b):a≤b-1:=Nat.le_sub_one_of_lt h1
theorem o82{a b:Nat}(h0:1≤a)(h1:a≤b):a-1<b:=zD (Nat.sub_lt (zD (by decide:0 < 1) h0) Nat.one_pos) h1
theorem o83{a:Nat}:0≤a:=Nat.zero_le _
theorem o84{a b c:Nat}(h0:a<c)(h1:c≤b):a<b:=zD h0 h1
theorem o85{a0 a1:Nat}(h0:(a0 - 1) < a0)(h1:¬((a0 - a1) > 0)):(a0 - 1) < a1:=zD h0 (Nat.sub_eq_zero_iff_le.mp (Nat.eq_zero_of_not_pos h1))
theorem o86{a b c d:Nat}(h0:a<c)(h1:c<d)(h2:b=d):a<b:=zD (Nat.lt_trans h0 h1) (zG h2.symm)
theorem o87{a b c:Nat}(h0:a<c)(h1:b=c):a<b:=zD h0 (zG h1.symm)
theorem o88{a b c d:Nat}(h0:1≤c)(h1:a<d)(h2:d=b+c)(h3:¬(a=b+c-1)):a<b+c-1:=Nat.lt_of_le_of_ne (Nat.le_sub_one_of_lt (Nat.lt_of_lt_of_eq h1 h2)) h3
theorem o89{a b c d:Nat}(h0:c<d)(h1:d=a+b):a+b-1<a+b:=Nat.sub_lt (zD (zA (Nat.zero_le _) h0) (zG h1)) Nat.one_pos
theorem o90{a b c:Nat}(h0:a<b+(c+1))(h1:¬(a=b+c)):a<b+c:=Nat.lt_of_le_of_ne (zK h0) h1
theorem o91{a b:Nat}(h0:1≤b)(h1:b≤a):1≤a:=zC h0 h1
theorem o92{a b:Nat}(h0:a<b):a≤b:=zL h0
theorem o93{a0 a1:Nat}(h0:a1≠a0)(h1:¬(a1 < a0)):a0 < a1:=Nat.lt_of_le_of_ne (Nat.not_lt.mp h1) (fun e=>h0 e.symm)
theorem o94{a b c d a4:Nat}(h0:a+c=d)(h1:1≤b)(h2:a4=d):a+b-1<a+b:=Nat.sub_lt (zD (zD (by decide:0 < 1) h1) (Nat.le_add_left _ _)) Nat.one_pos
theorem o95{a b c d:Nat}(h0:a+d=c)(h1:b<d):a+b<c:=zD (Nat.add_lt_add_left h1 _) (zG h0)
theorem o96{a b c d a4 a5 a6 a7:Nat}(h0:c+d=a4)(h1:a5<c+1)(h2:a6<a5)(h3:a7=a4)(h4:c≤a6):a<b:=absurd h2 (Nat.not_lt.mpr (zC (zK h1) h4))
theorem o97{a b c d a4:Nat}(h0:a+d=c)(h1:1≤b)(h2:b<d)(h3:a4=c):a+b-1<c:=zD (zA (Nat.sub_le _ _) (Nat.add_lt_add_left h2 _)) (zG h0)
theorem o98{a0 a1 a2 a3:Nat}(h0:(a0+a2)=a1)(h1:a3 > 1)(h2:a3<=a2):a0 < a1:=zD (Nat.lt_add_of_pos_right (zD (Nat.lt_trans (by decide:0 < 1) h1) h2)) (zG h0)
theorem o99{a0 a1 a2 a3 a4:Nat}(h0:(a0+a3)=a2)(h1:a4=a2)(h2:a1 > 1)(h3:a1<=a3):((a0+a1) - 1) < a2:=zD (zD (Nat.sub_lt (zD (Nat.lt_trans (by decide:0 < 1) h2) (Nat.le_add_left _ _)) Nat.one_pos) (zJ h3 _)) (zG h0)
theorem Akl{a0 a1 a2 a3 a4:Nat}(h0:(a0+a2)=a3)(h1:a4=a3)(h2:a1 > 1):a0 < ((a0+a1) - 1):=Nat.lt_sub_of_add_lt (Nat.add_lt_add_left h2 _)
theorem Akm{a0 a1 a2 a3 a4:Nat}(h0:(a0+a2)=a3)(h1:a4=a3)(h2:a1 > 1):((a0+a1) - 1) < (a0+a1):=Nat.sub_lt (zD (Nat.lt_trans (by decide:0 < 1) h2) (Nat.le_add_left _ _)) Nat.one_pos
theorem Akn{a0 a1 a2 a3 a4 a5 a6:Nat}(_:(a1+a3)=a4)(_:1<=a2)(_:a5 < (a1+(a2+1)))(_:a0 < a5)(_:a6=a4)(_:a1<=a0)(_:¬(a2 > 1)):a0=((a1+a2) - 1):=by grind
theorem Ako{a0 a1 a2 a3 a4 a5 a6:Nat}(_:(a1+a3)=a4)(_:1<=a2)(_:a0 < (a1+(a2+1)))(_:a5 < a0)(_:a5=((a1+a2) - 1))(_:a6=a4)(_:a1<=a5)(_:¬(a2 > 1)):a0=(a1+a2):=by lia
theorem Ag5{a b:Nat}(h0:a=b):a≤b:=zG h0
theorem Aiq{a b c d a4:Nat}(h0:a+d=c)(h1:b<d)(h2:a4=b):a+b<c:=zD (Nat.add_lt_add_left h1 _) (zG h0)
theorem Akp{a b c:Nat}(h0:a<b)(h1:c=a):a≤b:=zL h0
theorem Akq{a0 a1:Nat}(h0:a0≠a1)(h1:¬(a0 < a1))(h2:¬(a1 < a0)):False:=Nat.lt_irrefl _ (zA (Nat.not_lt.mp h1) (Nat.lt_of_le_of_ne (Nat.not_lt.mp h2) h0))
theorem Akr{a b c d a4 a5 a6 a7:Nat}(h0:b+d=a4)(h1:a<a5)(h2:a5=b+c)(h3:a6=a4)(h4:a7=c)(h5:b≤a)(h6:¬(a=b+c-1)):a<b+c-1:=Nat.lt_of_le_of_ne (Nat.le_sub_one_of_lt (Nat.lt_of_lt_of_eq h1 h2)) h6
theorem Aks{a b c d a4 a5 a6 a7:Nat}(h0:a+c=d)(h1:a4<a5)(h2:a5=a+b)(h3:a6=d)(h4:a7=b)(h5:a≤a4):a+b-1<a+b:=Nat.sub_lt (zD (zA (Nat.zero_le _) h1) (zG h2)) Nat.one_pos
theorem Akt{a b c d a4 a5 a6:Nat}(h0:b+d=a4)(h1:a<b+(c+1))(h2:a5=a4)(h3:a6=c)(h4:¬(a=b+c)):a<b+c:=Nat.lt_of_le_of_ne (zK h1) h4
theorem Aku{a b c d a4:Nat}(h0:a+d=a4)(h1:c=a4)(h2:b≤d):a+b≤c:=zC (zC (zJ h2 _) (zG h0)) (zG h1.symm)
theorem Akv{a b c d a4 a5:Nat}(h0:a+d=a4)(h1:b<a)(h2:a5=a4):¬(a≤b∧b<a+c):=fun z=>Nat.lt_irrefl _ (zD h1 z.1)
theorem Akw{a b c d a4 a5 a6:Nat}(h0:b+d=a4)(h1:a5<b+c)(h2:a<a5)(h3:a6=a4):a<b+c:=Nat.lt_trans h2 h1
theorem Akx{a b c d a4 a5:Nat}(h0:a+c=d)(h1:a4<b)(h2:a5=d)(h3:a≤a4):a≤b:=zL (zA h3 h1)
theorem Aky{a b c d a4 a5:Nat}(_:a+d=a4)(_:c<a+b)(_:a5=a4):a≤a+(a+b)-1-c:=by grind
theorem Akz{a b c d a4 a5 a6:Nat}(_:a+a4=a5)(_:c<a+b)(_:d<c)(_:a6=a5):a+(a+b)-1-c<a+(a+b)-1-d:=by lia
theorem Ak0{a b c d a4 a5 a6:Nat}(h0:a+d=a4)(h1:a5<a+b)(h2:c<a5)(h3:a6=a4)(h4:a≤c):a+(a+b)-1-c<a+b:=Nat.sub_lt_left_of_lt_add (Nat.le_sub_one_of_lt (zD (Nat.lt_trans h2 h1) (Nat.le_add_left _ _))) (zD (Nat.sub_lt (zD (zA (Nat.zero_le _) h1) (Nat.le_add_left _ _)) Nat.one_pos) (Nat.add_le_add_right h4 _))
theorem Ak1{a:Nat}(h0:2≤a):1≤a:=zL (zD (by decide:1 < 2) h0)
theorem Ak2{a b:Nat}(h0:2≤b)(h1:b≤a):1≤a:=zL (zD (zD (by decide:1 < 2) h0) h1)
theorem Ak3{a b:Nat}(h0:1≤a)(h1:a≤b):(max a 1)≤b:=zC (zG (Nat.max_eq_left h0)) h1
theorem Ak4{a b:Nat}(h0:(max b 1)≤a):1≤a:=zC (Nat.le_max_right _ _) h0
theorem Ak5{a b c:Nat}(h0:a-b≤c-(max 0 c))(h1:1≤c)(h2:b≤a):a=b:=Nat.le_antisymm (Nat.sub_eq_zero_iff_le.mp (Nat.le_zero.mp (zC h0 (zG (Nat.sub_eq_zero_of_le (Nat.le_max_right 0 c)))))) h2
theorem Ak6{a0 a1:Nat}(h0:a1<=a0)(h1:a1 ≥ a0):a0=a1:=Nat.le_antisymm h1 h0
theorem Air{a b c d a4:Nat}(h0:a+d≤c)(h1:b<d)(h2:a4=c):a+b<c:=zD (Nat.add_lt_add_left h1 _) h0
theorem Ak7{a b c d a4 a5 a6:Nat}(h0:a+d≤c)(h1:a4<d)(h2:b<a5)(h3:a6=c)(h4:a5≤a4):a+b<c:=zD (Nat.add_lt_add_left (Nat.lt_trans (zD h2 h4) h1) _) h0
theorem Ak8{a b c:Nat}(h0:a<c)(h1:c≤b):a≤b:=zL (zD h0 h1)
theorem Ak9{a b c:Nat}(h0:b≤c)(h1:¬(c=b)):a+b<a+c:=Nat.add_lt_add_of_le_of_lt (zI _) (Nat.lt_of_le_of_ne h0 (fun e=>h1 e.symm))
theorem Ais{a b c d:Nat}(h0:b<d)(h1:d≤c):a+b<a+c:=Nat.add_lt_add_of_le_of_lt (zI _) (zD h0 h1)
theorem Ala{a0 a1:Nat}(h0:a0≠a1)(h1:¬(a1 < a0)):a0 < a1:=Nat.lt_of_le_of_ne (Nat.not_lt.mp h1) h0
theorem Alb{a b c:Nat}(h0:b<c+1)(h1:¬(b=c)):a+b<a+c:=Nat.add_lt_add_of_le_of_lt (zI _) (Nat.lt_of_le_of_ne (zK h0) h1)
theorem Alc{a b c d a4:Nat}(h0:a+d≤a4)(h1:b<d)(h2:c=a4):a+b<c:=zD (zD (Nat.add_lt_add_left h1 _) h0) (zG h2.symm)
theorem Ald{a b c:Nat}(h0:c≤b):a+b-(a+c)≤a+b:=Nat.sub_le _ _
theorem Ale{a b c:Nat}(h0:c≤b):a+b-(a+b-(a+c))=a+c:=Nat.sub_sub_self (zJ h0 a)
theorem Alf{a b c:Nat}(h0:a<b):¬(a=b+c):=Nat.ne_of_lt (zD h0 (zM _ _))
theorem Alg{a b c d:Nat}(h0:c<a):¬(a+b<c∧c≤a+d):=fun z=>Nat.lt_irrefl _ (zD (Nat.lt_trans z.1 h0) (zM _ _))
theorem Alh{a b c:Nat}(h0:a<b+c)(h1:b≤a):a-b<c:=Nat.sub_lt_left_of_lt_add h1 h0
theorem Ali{a b c:Nat}(h0:c+a≤b):a≤b-c:=Nat.le_sub_of_add_le' h0
theorem Alj{a b c d:Nat}(h0:b+d≤a)(h1:a<b+c):a-b<c:=Nat.sub_lt_left_of_lt_add (zC (zM _ _) h0) h1
theorem Alk{a b c:Nat}(h0:a+c≤b):a+(b-a)=b:=(Nat.add_sub_cancel' (zC (zM _ _) h0))
theorem Alm{a b c d:Nat}(h0:d<b+c)(h1:a<d):¬(a=b+c):=Nat.ne_of_lt (Nat.lt_trans h1 h0)
theorem Aln{a b c d a4:Nat}(h0:a4<a+b)(h1:c<a4):¬(a+b<c∧c≤a+d):=fun z=>Nat.lt_irrefl _ (Nat.lt_trans (Nat.lt_trans z.1 h1) h0)
theorem Alo{a b c:Nat}(h0:a<b+c):¬(a=b+c):=Nat.ne_of_lt h0
theorem Ait{a b c d:Nat}(h0:c<a+b):¬(a+b<c∧c≤a+d):=fun z=>Nat.lt_irrefl _ (Nat.lt_trans z.1 h0)
theorem Alp{a b c d:Nat}(h0:a<b+(c+1))(h1:a<b+d)(h2:d≤c):a<b+c:=zD h1 (zJ h2 _)
theorem Alq{a b c d:Nat}(h0:a<d)(h1:d=b+c):¬(a=b+c):=Nat.ne_of_lt (zD h0 (zG h1))
theorem Alr{a b c d a4:Nat}(h0:c<a4)(h1:a4=a+b):¬(a+b<c∧c≤a+d):=fun z=>Nat.lt_irrefl _ (zD (Nat.lt_trans z.1 h0) (zG h1))
theorem Als{a b c d:Nat}(h0:a<d)(h1:d=b+c):a<b+c:=zD h0 (zG h1)
theorem Alt{a b c d:Nat}(h0:c<a+(d+1))(h1:¬(c<a+b))(h2:¬(c=a+b)):a+b<c∧c≤a+d:=⟨Nat.lt_of_le_of_ne (Nat.not_lt.mp h1) fun e=>h2 e.symm,zK h0⟩
theorem Alu{a b c d:Nat}(h0:d<c)(h1:d=a+b):a+b≤c-1:=Nat.le_sub_one_of_lt (zA (zG h1.symm) h0)
theorem Alv{a b c d a4:Nat}(h0:1≤c)(h1:a<b+(c+1))(h2:d=b+a4):a-1<b+c:=zA (Nat.sub_le_sub_right (zK h1) 1) (Nat.sub_lt (zD h0 (Nat.le_add_left _ _)) Nat.one_pos)
theorem Alw{a b c d a4 a5:Nat}(h0:c<d+a4)(h1:c<a5)(h2:c=a5-1)(h3:¬(a5<d+a4))(h4:¬(a5=d+a4))(h5:¬(c=d+a4)):a<b:=absurd h0 (Nat.not_lt.mpr (zC (Nat.le_sub_one_of_lt (Nat.lt_of_le_of_ne (Nat.not_lt.mp h3) fun e=>h4 e.symm)) (zG h2.symm)))
theorem Alx{a b:Nat}(h1:a<b)(h2:¬(a=b-1)):a<b-1:=Nat.lt_of_le_of_ne (Nat.le_sub_one_of_lt h1) h2
theorem Aly{a b c:Nat}(h0:1≤c)(h1:a<b+(c+1)):a-1<b+c:=zA (Nat.sub_le_sub_right (zK h1) 1) (Nat.sub_lt (zD h0 (Nat.le_add_left _ _)) Nat.one_pos)
theorem Alz{a b c d a4:Nat}(h0:a4<a+(d+1))(h1:c<a4)(h2:¬(c<a+b))(h3:¬(c=a+b)):a+b<c∧c≤a+d:=⟨Nat.lt_of_le_of_ne (Nat.not_lt.mp h2) fun e=>h3 e.symm,zL (zD h1 (zK h0))⟩
theorem Al0{a b c:Nat}(h0:a≤b)(h1:¬(b<a+c))(h2:¬(b=a+c)):a≤b-1:=Nat.le_sub_one_of_lt (zA (zM _ _) (Nat.lt_of_le_of_ne (Nat.not_lt.mp h1) (fun e=>h2 e.symm)))
theorem Al1{a b c d:Nat}(h0:a<b)(h1:¬(a<c+d))(h2:¬(a=c+d)):a-1<b-1:=Nat.sub_lt_sub_right (zA (Nat.zero_le _) (Nat.lt_of_le_of_ne (Nat.not_lt.mp h1) fun e=>h2 e.symm)) h0
theorem Al2{a b c d:Nat}(h0:a<b+(c+1))(h1:d<a):a-1<b+c:=zD (Nat.sub_lt (zA (Nat.zero_le _) h1) Nat.one_pos) (zK h0)
theorem Al3{a b c d:Nat}(h0:a+b+(c+1)≤d):a+(b+1)+c≤d:=zC (zG (Nat.succ_add (a+b) c)) h0
theorem Al4{a b c d:Nat}(h0:a+b+(d+1)≤c):a+b<c:=zD (Nat.lt_add_of_pos_right (zA (Nat.zero_le _) (Nat.lt_succ_self _))) h0
theorem Al5{a b:Nat}:a+(b+1)=a+b+1:=(Nat.add_assoc _ _ _).symm
theorem Al6{a b c:Nat}:a+b+(c+1)=a+(b+1)+c:=(Nat.succ_add (a+b) c).symm
theorem Al7{a b c:Nat}:a+b<a+(b+1)+c:=zD (Nat.add_lt_add_left (Nat.lt_succ_self _) _) (zM _ _)
theorem Al8{a b c d:Nat}(h0:d+a<b)(h1:b≤c):a<(min b c)-d:=Nat.lt_sub_of_add_lt (zD (zA (zG (Nat.add_comm _ _)) h0) (zG (Nat.min_eq_left h1).symm))
theorem Al9{a b c:Nat}(h0:a≤b):(min a b)-c=a-c:=congrArg (· - c) (Nat.min_eq_left h0)
theorem Ama{a b c d:Nat}(h0:a+b+d≤c):a+b≤c:=zC (zM _ _) h0
theorem Amc{a b c d a4:Nat}(h0:a+b+a4≤d)(h1:c≤a4):a+b+c≤d:=zC (zJ h1 _) h0
theorem Amd{a b c d a4 a5 a6 a7:Nat}(_:1≤d)(_:c<b)(_:a4=a5+b+d-(a5+b))(_:a6=a5+b-(a5+c))(_:a7=a6+a4)(_:a7=a):a=b-c+d:=by lia
theorem Ame{a b c d a4:Nat}(h0:a+d+a4≤c)(h1:b<d):(min (a+b) c)=a+b:=(Nat.min_eq_left (zL (zD (zD (Nat.add_lt_add_left h1 _) (zM _ _)) h0)))
theorem Amf{a b c d:Nat}(h0:a<c+d)(h1:b=c+d):a<b:=zD h0 (zG h1.symm)
theorem Amg{a b c d:Nat}(h0:c+d≤b)(h1:a=c+d):a≤b:=zC (zG h1) h0
theorem Amh{a b c d a4 a5 a6 a7:Nat}(h0:b+c≤a)(h1:a<b+a4+a5)(h2:c<a4)(h3:a6=a4-c+a5)(h4:d=a4-c+a5)(h5:a7=b+c):a-(b+c)<d:=Nat.sub_lt_left_of_lt_add h0 (Nat.lt_of_lt_of_eq h1 ((congrArg ((b+c)+·) h4).trans (Agq h2)).symm)
theorem Ami{a b c d a4 a5 a6 a7:Nat}(h0:d+a4+a5≤c)(h1:a6<a4)(h2:a7=a4-a6+a5)(h3:b=a4-a6+a5)(h4:a=d+a6):a+b≤c:=zC (zG ((congrArg (·+b) h4).trans ((congrArg ((d+a6)+·) h3).trans (Agq h1)))) h0
theorem Amj{a b c d a4 a5 a6 a7:Nat}(h0:a+c+d≤a4)(h1:b<c)(h2:a5=c-b+d)(h3:a6=c-b+d)(h4:a7=a+b):a+b+(c-b+d)+(a4-(a+b+(c-b+d)))=a4:=Nat.add_sub_cancel' (zC (zG (Agq h1)) h0)
theorem Aiu{a b c d a4 a5:Nat}(h0:a+b+d≤c)(h1:a4=a+a5):a+b≤c:=zC (zM _ _) h0
theorem Aiv{a b c d:Nat}(h0:c<a+d-(a+b))(h1:b<d):a+b+c<a+d:=Nat.add_lt_of_lt_sub' h0
theorem Ag6{a b c:Nat}:a+b≤a+b+c:=zM _ _
theorem Ag7{a b c d a4 a5 a6 a7 a8:Nat}(h0:a+b+a4≤d)(h1:a5=b-a6+c)(h2:a7=b-a6+c)(h3:a8=a+a6)(h4:c≤a4):a+b+c≤d:=zC (zJ h4 _) h0
theorem Aiw{a b c d a4 a5 a6:Nat}(h0:1≤d)(h1:c<a+b+d-(a+b))(h2:a4=b-a5+d)(h3:a6=b-a5+d):a+b+c<a+b+d:=Nat.add_lt_of_lt_sub' h1
theorem Amk{a b c d:Nat}(h0:a<b+c)(h1:d=b+c)(h2:b≤a):a-b<c:=Nat.sub_lt_left_of_lt_add h2 h0
theorem Aml{a b c d:Nat}(h0:c=a+d)(h1:a≤b):a+(b-a)=b:=(Nat.add_sub_cancel' h1)
theorem Aix{a b c d a4:Nat}(h0:a<b+d)(h1:d<c)(h2:a4=b+d):a<b+c:=Nat.lt_trans h0 (Nat.add_lt_add_left h1 _)
theorem Amm{a b c d a4 a5 a6 a7 a8:Nat}(h0:a+b+d≤c)(h1:1≤a4)(h2:a5=b-a6+a4)(h3:a7=b-a6+a4)(h4:a8=a+a6)(h5:a4≤d):a+b<c:=zD (Nat.lt_add_of_pos_right (zD (zD (by decide:0 < 1) h1) h5)) h0
theorem Amn{a b c d a4 a5 a6 a7:Nat}(h0:c+d+a≤b)(h1:1≤a)(h2:a4=d-a5+a)(h3:a6=d-a5+a)(h4:a7=c+a5):a≤b-(c+d):=Nat.le_sub_of_add_le' h0
theorem Amo{a b c d a4 a5 a6 a7 a8:Nat}(h0:1≤a4)(h1:a<b+c+d)(h2:a5=c-a6+a4)(h3:a7=c-a6+a4)(h4:a8=b+a6)(h5:a4≤d):a-(b+c)<d:=(Nat.lt_or_ge a (b+c)).elim (fun h=>zA (zG (Nat.sub_eq_zero_of_le (zL h))) (zD h0 h5)) fun h=>Nat.sub_lt_left_of_lt_add h h1
theorem Amp{a b c d a4 a5 a6 a7:Nat}(h0:a+b+d≤c)(h1:1≤d)(h2:a4=b-a5+d)(h3:a6=b-a5+d)(h4:a7=a+a5):a+b+(c-(a+b))=c:=(Nat.add_sub_cancel' (zC (zM _ _) h0))
theorem Amq{a b c d a4 a5 a6 a7:Nat}(h0:a+b+d≤c)(h1:1≤d)(h2:a4<b)(h3:a5=b-a4+d)(h4:a6=b-a4+d)(h5:a7=a+a4):a+b-1<c:=zD (zA (Nat.sub_le _ _) (Nat.lt_add_of_pos_right (zD (by decide:0 < 1) h1))) h0
theorem Amr{a b c d a4 a5 a6:Nat}(h0:c+d+a4≤b)(h1:a<c+d+a4)(h2:a5=c+a6):a<b:=zD h1 h0
theorem Ams{a b c d:Nat}(h0:b<c):a+b+(c-b+d)=a+c+d:=(Nat.add_assoc (a+b) (c - b) d).symm.trans (congrArg (·+d) ((Nat.add_assoc a b (c - b)).trans (congrArg (a+·) (Nat.add_sub_cancel' (zL h0)))))
theorem Amt{a b c:Nat}(h0:b<c):a+b+(a+c-(a+b))=a+c:=(Nat.add_sub_cancel' (zL (Nat.add_lt_add_left h0 _)))
theorem Amu{a b c d a4:Nat}(h0:d<b+c)(h1:a<d)(h2:a4=b+c):a<b+c:=Nat.lt_trans h1 h0
theorem Ag8{a b c d:Nat}(h0:d=a+b)(h1:¬(c<a+b)):a+b≤c:=Nat.not_lt.mp h1
theorem Ag9{a b c d a4 a5 a6 a7:Nat}(h0:a<b+a4+a5)(h1:c<a4)(h2:d=a4-c+a5)(h3:a6=a4-c+a5)(h4:a7=b+c)(h5:¬(a<b+c)):a-(b+c)<d:=Nat.sub_lt_left_of_lt_add (Nat.not_lt.mp h5) (Nat.lt_of_lt_of_eq h0 ((congrArg ((b+c)+·) h2).trans (Agq h1)).symm)
theorem Amv{a b c d a4:Nat}(h0:c+d≤b)(h1:a<c+d)(h2:a4=c+d):a<b:=zD h1 h0
theorem Amw{a b c d a4 a5 a6 a7 a8:Nat}(h0:a<b+c+a4)(h1:a5=c-a6+a4)(h2:a7=c-a6+a4)(h3:a8=b+a6)(h4:a4≤d):a<b+c+d:=zD h0 (zJ h4 _)
theorem Agu{a b c d a4 a5 a6 a7:Nat}(h0:a4=b-a5+c)(h1:a6=b-a5+c)(h2:a7=a+a5)(h3:¬(d<a+b+c)):a+b+c≤d:=Nat.not_lt.mp h3
theorem Aiy{a b c d a4 a5 a6 a7:Nat}(h0:1≤d)(h1:a4=b-a5+d)(h2:a6=b-a5+d)(h3:a7=a+a5)(h4:¬(c<a+b+d)):a+b≤c:=zC (zM _ _) (Nat.not_lt.mp h4)
theorem Agv{a b c d a4 a5:Nat}(h0:a<b+(c+d))(h1:a4=b+a5):a<b+c+d:=zD h0 (zG (Nat.add_assoc _ _ _).symm)
theorem Amx{a b c d a4:Nat}(h0:a<d)(h1:a4=b+c)(h2:¬(d<b+c))(h3:¬(a<b+c)):a-(b+c)<d-(b+c):=Nat.sub_lt_left_of_lt_add (Nat.not_lt.mp h3) (zD h0 (zG (Nat.add_sub_cancel' (Nat.not_lt.mp h2)).symm))
theorem Amy{a b c d:Nat}(h0:a+c≤b)(h1:d=a+c):a≤b:=zC (zM _ _) h0
theorem Amz{a b c d a4:Nat}(h0:a<b+c)(h1:d<c)(h2:a4=b+d):a≤b+c-1:=Nat.le_sub_one_of_lt h0
theorem Am0{a b c d a4:Nat}(h0:c<a+b)(h1:d=a+a4):a+b-1<a+b:=Nat.sub_lt (zA (Nat.zero_le _) h0) Nat.one_pos
theorem Am1{a b c d a4 a5 a6 a7 a8:Nat}(h0:a<c+d+a4)(h1:a5=d-a6+a4)(h2:a7=d-a6+a4)(h3:a8=c+a6)(h4:¬(b<c+d+a4)):a<b:=zD h0 (Nat.not_lt.mp h4)
theorem Am2{a b c d a4 a5 a6 a7 a8:Nat}(h0:a4<d)(h1:a5=b-a6+c)(h2:a7=b-a6+c)(h3:a8=a+a6)(h4:¬(a4<a+b+c)):a+b+c≤d:=zL (zA (Nat.not_lt.mp h4) h0)
theorem Am3{a b c d:Nat}(h0:a<b)(h1:d=b+c):a<b+c:=zD h0 (zM _ _)
theorem Am4{a b c:Nat}(h0:1≤c)(h1:a<b+c)(h2:¬(a=b+c-1)):a<b+c-1:=Nat.lt_of_le_of_ne (Nat.le_sub_one_of_lt h1) h2
theorem Am5{a b c:Nat}(h0:c<a+b):a+b-1<a+b:=Nat.sub_lt (zA (Nat.zero_le _) h0) Nat.one_pos
theorem Am6{a b c:Nat}(h0:¬(c<a+b))(h1:¬(c=a+b)):a+b<c:=Nat.lt_of_le_of_ne (Nat.not_lt.mp h0) (fun e=>h1 e.symm)
theorem Aiz{a b c d:Nat}(h0:a<b+(c+d)):a<b+c+d:=zD h0 (zG (Nat.add_assoc _ _ _).symm)
theorem Am7{a b c d:Nat}(h0:c<d)(h1:a≤c)(h2:d≤b):a<b:=zD (zA h1 h0) h2
theorem Am8{a b c:Nat}(h0:¬(c<a+b)):a+b≤c:=Nat.not_lt.mp h0
theorem Am9{a b c:Nat}(h0:a<c)(h1:c=b):a<b:=zD h0 (zG h1)
theorem Ana{a b:Nat}(h0:1≤b):a+b-1<a+b:=Nat.sub_lt (zD (zD (by decide:0 < 1) h0) (Nat.le_add_left _ _)) Nat.one_pos
theorem Ai0{a b c d a4:Nat}(h0:a+b+d≤a4)(h1:1≤d)(h2:c=a4):a+b<c:=zD (zD (Nat.lt_add_of_pos_right (zD (by decide:0 < 1) h1)) h0) (zG h2.symm)
theorem Anb{a0 a1:Nat}(h0:a0≠a1)(h1:a0<=a1):a0 < a1:=Nat.lt_of_le_of_ne h1 h0
theorem Anc{a b c d a4:Nat}(h0:a+b+d≤c)(h1:1≤d)(h2:a4=c):a+b<c:=zD (Nat.lt_add_of_pos_right (zD (by decide:0 < 1) h1)) h0
theorem Aha{a b c d a4:Nat}(h0:a+b+d≤a4)(h1:1≤d)(h2:c=a4):a+b≤c:=zC (zC (zM _ _) h0) (zG h2.symm)
theorem Ane{a b c d a4 a5:Nat}(h0:c+d+a4≤b)(h1:1≤a4)(h2:a<c+d)(h3:a5=b):a<b:=zD (zD h2 (zM _ _)) h0
theorem Ahb{a:Nat}(h0:1≤a):0<a:=zD (by decide:0 < 1) h0
theorem Anf{a b:Nat}(h0:a-b=0)(h1:1≤a):a-1<b:=zD (Nat.sub_lt h1 Nat.one_pos) (Nat.sub_eq_zero_iff_le.mp h0)
theorem Ang{a b:Nat}(h0:1≤b):a+(b-1)=a+b-1:=(Nat.add_sub_assoc h0 a).symm
theorem Anh{a0 a1:Nat}(h0:(a1 - a0)≠0)(h1:a0<=a1):a0 < a1:=Nat.lt_of_sub_pos (Nat.pos_of_ne_zero h0)
theorem Ani{a b c:Nat}(h0:1≤c)(h1:b<c):a+b+(c-b)-1=a+c-1:=congrArg (· - 1) ((Nat.add_assoc a b (c - b)).trans (congrArg (a+·) (Nat.add_sub_cancel' (zL h1))))
theorem Anj{a b c d a4:Nat}(h0:a+b+d≤a4)(h1:1≤b)(h2:1≤d)(h3:c=a4):a+b-1<c:=zD (zD (zA (Nat.sub_le _ _) (Nat.lt_add_of_pos_right (zD (by decide:0 < 1) h2))) h0) (zG h3.symm)
theorem Ank{a b c d a4:Nat}(h0:a+b+d≤c)(h1:1≤b)(h2:1≤d)(h3:a4=c):a+b-1<c:=zD (zA (Nat.sub_le _ _) (Nat.lt_add_of_pos_right (zD (by decide:0 < 1) h2))) h0
theorem Ai1{a b c d a4:Nat}(h0:a+b+c≤a4)(h1:d=a4):a+b+c≤d:=zC h0 (zG h1.symm)
theorem Anl{a b c d a4 a5:Nat}(h0:c+d+a4≤b)(h1:a<c+d+a4)(h2:a5=b):a<b:=zD h1 h0
theorem Anm{a:Nat}(h0:a=0):a≤0:=zG h0
theorem Ann{a0:Nat}(h0:a0≠0):1<=a0:=Nat.pos_of_ne_zero h0
theorem Ano{a b c:Nat}(h0:c<b):a+b-(a+c)=b-c:=(Nat.add_sub_add_left _ _ _)
theorem Anp{a b c d a4 a5:Nat}(h0:a+b+a4≤a5)(h1:d=a5)(h2:c≤a4):a+b+c≤d:=zC (zC (zJ h2 _) h0) (zG h1.symm)
theorem Anq{a b c:Nat}(_:1≤c):a+b+c-(a+b)=c:=by grind
theorem Ai2{a b c d:Nat}(h0:c<d-b)(h1:b<d):a+b+c<a+d:=zA (zG (Nat.add_assoc a b c)) (Nat.add_lt_add_left (Nat.add_lt_of_lt_sub' h0) a)
theorem Anr{a b c d a4:Nat}(h0:c<d)(h1:a4=d):a+b+c<a+b+d:=Nat.add_lt_add_of_le_of_lt (zI _) h0
theorem Ans{a b c d a4 a5 a6:Nat}(h0:a+b+a4≤a5)(h1:d=a5)(h2:a6=c)(h3:c≤a4):a+b+c≤d:=zC (zC (zJ h3 _) h0) (zG h1.symm)
theorem Ant{a b c:Nat}(h0:b<c)(h1:a=c-b):1≤a:=Nat.lt_of_lt_of_eq (Nat.sub_pos_of_lt h0) h1.symm
theorem Anu{a b:Nat}(h0:1≤b)(h1:a=b):1≤a:=zC h0 (zG h1.symm)
theorem Anv{a b c d:Nat}(h0:d<b-c)(h1:a<d):a<b-c:=Nat.lt_trans h1 h0
theorem Anw{a b c:Nat}:a≤a+b+c:=zC (zM _ _) (zM _ _)
theorem Ai3{a b c d:Nat}(h0:c<d):a+b+c<a+b+d:=Nat.add_lt_add_of_le_of_lt (zI _) h0
theorem Anx{a b c d:Nat}(h0:a<c)(h1:c<b)(h2:d=b):a<b:=Nat.lt_trans h0 h1
theorem Any{a b c d a4 a5:Nat}(h0:c<a4)(h1:a5=a4)(h2:a4≤d):a+b+c<a+b+d:=Nat.add_lt_add_of_le_of_lt (zI _) (zD h0 h2)
theorem Anz{a b c d a4 a5 a6 a7 a8:Nat}(h0:a+a4+a5≤d)(h1:1≤a6)(h2:c<a4-b)(h3:b<a4)(h4:a7=d)(h5:a8=a6)(h6:a6≤a5):a+b+c<d:=zD (zD (zA (zG (Nat.add_assoc a b c)) (Nat.add_lt_add_left (Nat.add_lt_of_lt_sub' h2) a)) (zM _ _)) h0
theorem An0{a b c d a4 a5 a6 a7:Nat}(h0:a+b+a4≤d)(h1:c<a5)(h2:a6=d)(h3:a7=a5)(h4:a5≤a4):a+b+c<d:=zD (Nat.add_lt_add_left (zD h1 h4) _) h0
theorem An1{a b c d a4:Nat}(h0:c<d-b)(h1:b<d):a+b+c<a+d+a4:=zD (zA (zG (Nat.add_assoc a b c)) (Nat.add_lt_add_left (Nat.add_lt_of_lt_sub' h0) a)) (zM _ _)
theorem An2{a b c d a4 a5 a6 a7:Nat}(h0:a+b+a4≤a5)(h1:c<a6)(h2:d=a5)(h3:a7=a6)(h4:a6≤a4):a+b+c<d:=zD (zD (Nat.add_lt_add_left (zD h1 h4) _) h0) (zG h2.symm)
theorem An3{a b c:Nat}(h0:b<a)(h1:c=a-b):0<a-b:=Nat.lt_sub_of_add_lt (zA (zG (Nat.zero_add _)) h0)
theorem An4{a b:Nat}(h0:1≤a)(h1:b=a):0<a:=zD (by decide:0 < 1) h0
theorem An5{a b:Nat}(h0:b<a):a-b-1<a-b:=Nat.sub_lt (Nat.lt_sub_of_add_lt (zA (zG (Nat.zero_add _)) h0)) Nat.one_pos
theorem Ai4{a b:Nat}(h0:1≤a)(h1:b=a):a-1<a:=Nat.sub_lt (zD (by decide:0 < 1) h0) Nat.one_pos
theorem An6{a b c:Nat}(h0:1≤c)(h1:b<c):a+b+(c-b-1)=a+c-1:=(Nat.add_sub_assoc (Nat.sub_pos_of_lt h1) (a+b)).symm.trans (congrArg (· - 1) ((Nat.add_assoc a b (c - b)).trans (congrArg (a+·) (Nat.add_sub_cancel' (zL h1)))))
theorem An7{a b c d a4 a5 a6:Nat}(h0:a=a4+a5)(h1:a4=b-c)(h2:a6=d)(h3:a5=d):a=b-c+d:=h0.trans ((congrArg (·+a5) h1).trans (congrArg ((b - c)+·) h3))
theorem An8{a b c d a4 a5 a6 a7 a8:Nat}(_:a+c+a5≤a6)(_:b<c)(_:a7=c-b+d)(_:a4=a6)(_:a8=d)(_:d≤a5):a+b+0+(c-b+d)≤a4:=by grind
theorem An9{a b c d:Nat}(h0:a+d+b≤c)(h1:1≤d):a+(b+1)≤c:=zC (zC (zG (Nat.succ_add a b).symm) (Nat.add_le_add_right (zJ h1 a) b)) h0
theorem Aoa{a b c:Nat}(h0:a+c≤b)(h1:1≤c):a≤b:=zC (zM _ _) h0
theorem Aob{a b c d a4 a5:Nat}(h0:c+d+a4≤b)(h1:a5<c+d)(h2:a<a5):a<b:=zD (zD (Nat.lt_trans h2 h1) (zM _ _)) h0
theorem Aoc{a b c:Nat}(h0:c<b)(h1:a≤c):a≤b:=zL (zA h1 h0)
theorem Aod{a b c d a4:Nat}(h0:c+d+a4≤b)(h1:a<c+d):a<b:=zD (zD h1 (zM _ _)) h0
theorem Ai5{a b:Nat}(h0:a+1<b):a<b:=Nat.lt_trans (Nat.lt_succ_self _) h0
theorem Aoe{a b:Nat}(h0:a+1<b):(min a b)=a:=(Nat.min_eq_left (zL (Nat.lt_trans (Nat.lt_succ_self _) h0)))
theorem Aof{a b c:Nat}(h0:a+1<b)(h1:c=a):a<b:=Nat.lt_trans (Nat.lt_succ_self _) h0
theorem Aog{a:Nat}:a<a+1+1:=Nat.lt_trans (Nat.lt_succ_self _) (Nat.lt_succ_self _)
theorem Ai6{a b c d a4 a5:Nat}(h0:a+b+c+a4≤a5)(h1:a5≤d):a+b+c≤d:=zC (zC (zM _ _) h0) h1
theorem Aoh{a b:Nat}(h0:1≤a)(h1:1≤b):1≤a+b:=zC h1 (Nat.le_add_left _ _)
theorem Aoi{a b c d:Nat}(h0:b=c+(d+1+1))(h1:a=c+(d+1)):a+1=b:=(congrArg (·+1) h1).trans h0.symm
theorem Aoj{a:Nat}(h0:2≤a):a-2-1+1<a:=zA (Nat.add_le_add_right (Nat.sub_le _ _) 1) (Nat.lt_of_lt_of_eq (Nat.lt_succ_self _) (Nat.sub_add_cancel h0))
theorem Aok{a:Nat}(h0:2≤a):a-2+1<a:=Nat.lt_of_lt_of_eq (Nat.lt_succ_self _) (Nat.sub_add_cancel h0)
theorem Aol{a0 a1:Nat}(h0:a0<=a1)(h1:a0 ≥ a1):a0=a1:=Nat.le_antisymm h0 h1
theorem Aom{a0 a1:Nat}(h0:¬(a0 ≥ a1)):(a0+(a1 - a0))=a1:=(Nat.add_sub_cancel' (zL (Nat.not_le.mp h0)))
theorem Aon{a0 a1:Nat}(h0:¬(a1 ≥ a0)):1<=(a0 - a1):=Nat.le_sub_of_add_le' (Nat.not_le.mp h0)
theorem Aoo{a b c:Nat}(h0:1≤c)(h1:a≤b):a+1≤b+c:=Nat.add_le_add h1 h0
theorem Aop{a0:Nat}(h0:a0 > 1):(a0 - 2) < a0:=Nat.sub_lt (Nat.lt_of_succ_lt h0) Nat.two_pos
theorem Aoq{a0:Nat}(h0:a0 > 1):((a0 - 2)+1) < a0:=Nat.lt_of_lt_of_eq (Nat.lt_succ_self _) (Nat.sub_add_cancel h0)
theorem Aor{a0 a1 a2 a3:Nat}(h0:a2 < a1)(h1:a3 > 1)(h2:a0<=a2):a0<=a1:=zL (zA h2 h0)
theorem Ai7{a0 a1 a2:Nat}(h0:¬(a0 ≥ a1)):(a0+(min (a1 - a0) a2))<=a1:=zC (zJ (Nat.min_le_left _ _) _) (zG (Nat.add_sub_cancel' (zL (Nat.not_le.mp h0))))
theorem Aos{a b c d:Nat}(h0:1≤d)(h1:d<c)(h2:d≤a-b):1≤(min (a-b) c):=Nat.le_min.mpr ⟨zC h0 h2,zC h0 (zL h1)⟩
theorem Aot{a b:Nat}(h0:0+a≤b):a≤b:=zC (Nat.le_add_left _ _) h0
theorem Aou{a:Nat}(h0:¬(a≤1)):2≤a:=Nat.not_le.mp h0
theorem Aov{a b c d:Nat}(h0:a+1=d)(h1:d≤1∨d≤b-c)(h2:c<b)(h3:¬(d≤1)):a≤b-(c+1):=Nat.le_sub_one_of_lt (zC (zG h0) (h1.resolve_left h3))
theorem Aow{a b:Nat}(h0:a≤1∨a≤b-(max 0 b))(h1:2≤b):a≤1:=h0.elim id fun h=>zC h (zC (zG (Nat.sub_eq_zero_of_le (Nat.le_max_right 0 b))) (Nat.zero_le 1))
theorem Aox{a:Nat}(h0:0=a)(h1:2≤a):False:=Nat.lt_irrefl _ (zA (zC h1 (zG h0.symm)) (by decide:0 < 2))
theorem Aoy{a b:Nat}(h0:a+1+1=b)(h1:b≤1):False:=Nat.lt_irrefl _ (zD (zD (zG h0) h1) (Nat.le_add_left _ _))
theorem Aoz{a b c:Nat}(h0:b=a)(h1:c=a)(h2:a≤1000):a≤16777216+1:=zL (zA h2 (by decide:1000 < (16777216+1)))
theorem Ao0{a:Nat}(h0:a≤1000)(h1:¬(a<2)):2≤a:=Nat.not_lt.mp h1
theorem Ai8{a b c:Nat}(h0:a+20+c<b):a+10<b:=zA (zC (zJ (by decide:10<=20) a) (zM _ _)) h0
theorem Ao1{a b:Nat}(h0:a≤b):a+0<b+1:=zA (zC (zI _) h0) (Nat.lt_succ_self _)
theorem Ao2{a b c:Nat}(h0:a<b):a+0<b+c:=zD (zA (zI _) h0) (zM _ _)
theorem Ao3{a b:Nat}(h0:a<b):a+1<b+1:=Nat.lt_succ_of_le h0
theorem Ao4{a b:Nat}(h0:a=b):¬(a<b):=fun z=>Nat.lt_irrefl _ (zA (zG h0.symm) z)
theorem Ao5{a b:Nat}(h0:b=a):¬(a<b):=fun z=>Nat.lt_irrefl _ (zA (zG h0) z)
theorem Ao6{a b:Nat}(h0:b=a)(h1:b≤1000):a≤1000:=zC (zG h0.symm) h1
theorem Ao7{a b:Nat}(h0:b=a)(h1:b≤1000):a≤16777216:=zL (zA (zC (zG h0.symm) h1) (by decide:1000 < 16777216))
theorem Ao8{a b:Nat}(h0:a+100<b):a+1+1+30<b:=zA (zJ (by decide:32<=100) a) h0
theorem Ao9{a b c:Nat}(h0:2≤b)(h1:c=b)(h2:a=b)(h3:c≤1000):0<a:=zD (zD (by decide:0 < 2) h0) (zG h2.symm)
theorem Apa{a b:Nat}(h0:a+30<b):a+20+5<b:=zA (zJ (by decide:25<=30) a) h0
theorem Apb{a b:Nat}(h0:a=b)(h1:a≤1000):a≤16777216:=zL (zA h1 (by decide:1000 < 16777216))
theorem Aeo{a b:Nat}(h0:¬(b<a)):a≤b:=Nat.not_lt.mp h0
theorem Ahc{a b c:Nat}(h0:b<a)(h1:c=a+1-b):a+1-(b+1)<c:=h1▸Nat.sub_lt_sub_left (Nat.lt_succ_of_lt h0) (Nat.lt_succ_self _)
theorem Apc{a b c d:Nat}(h0:c<b)(h1:a<c)(h2:c=a+d):a<b:=Nat.lt_trans h1 h0
theorem Ai9{a b:Nat}(h0:a-b=0)(h1:¬(a<b)):a=b:=Nat.le_antisymm (Nat.le_of_sub_eq_zero h0) (Nat.not_lt.mp h1)
theorem Apd{a b c:Nat}(h0:a=c)(h1:b=c):a=b:=Nat.le_antisymm (zC (zG h0) (zG h1.symm)) (zC (zG h1) (zG h0.symm))
theorem Ape{a b c:Nat}(h0:a+5*b+150<c):a+1+5*b+147<c:=Agr h0 (by decide)
theorem Apf{a b c:Nat}(h0:a+20*b+100<c):a+1+20*b+90<c:=Agr h0 (by decide)
theorem Apg{a b c:Nat}(h0:a+20*c+100<b):a+100<b:=zA (Nat.add_le_add_right (zM _ _) _) h0
theorem Aph{a b c d:Nat}(h0:c=d)(h1:c=a)(h2:c≤b):a≤b:=zC (zG h1.symm) h2
theorem Api{a:Nat}:a<a+4:=Nat.lt_add_of_pos_right (by decide)
theorem Apj{a:Nat}:a+1<a+4:=Nat.add_lt_add_of_le_of_lt (zI _) (by decide:1 < 4)
theorem Aep{a b:Nat}(h0:(a:Int)<(b:Int)):a<b:=Int.ofNat_lt.mp h0
theorem Apk{a b c:Nat}(h0:a+20*(c+1)+90<b):a+3+100<b:=zA (zC (zJ (by decide:103<=110) a) (Nat.add_le_add_right (zM a (20 * c)) 110)) h0
theorem Ahd{a b:Nat}:a+(b+1)=a+1+b:=(Nat.add_right_comm a 1 b).symm
theorem Apl{a:Nat}(h0:a≤63):a≤16777216:=zL (zA h0 (by decide:63 < 16777216))
theorem P9{a:Nat}:(0:Int)≤(a:Int):=Int.natCast_nonneg _
theorem Aac{a b:Nat}(h0:a<b):(a:Int)<(b:Int):=Int.ofNat_lt.mpr h0
theorem Aja{a b:Nat}(h0:0=b-a)(h1:a≤b):a=b:=Nat.le_antisymm h1 (Nat.le_of_sub_eq_zero h0.symm)
theorem Apm{a:Nat}(h0:0<a):(a-1)/2<a:=zA (Nat.div_le_self _ _) (Nat.sub_lt h0 Nat.one_pos)
theorem Ahe{x0 x1:Int}(h0:¬(x1<x0))(h1:¬(x1=x0)):x0<x1:=Int.lt_iff_le_and_ne.mpr ⟨Int.not_lt.mp h0,fun e=>h1 e.symm⟩
theorem Apn{a:Nat}(h0:a<0):False:=Nat.lt_irrefl _ (zD h0 (Nat.zero_le _))
theorem Apo{a b c:Nat}(h0:c<b+1)(h1:a<c):a<b:=zD h1 (zK h0)
theorem App{a:Nat}(h0:0<a):(a:Int)-(1:Int)=((a-1:Nat):Int):=(Int.ofNat_sub h0).symm
theorem Apq{a:Nat}:((a-1:Nat):Int)/(2:Int)=(((a-1)/2:Nat):Int):=rfl
theorem Ajb{a:Nat}(h0:0<a):(0:Int)≤(a:Int):=Int.natCast_nonneg _
theorem Aet{a b:Nat}(_:a<100000)(_:b=16777216):a<b:=by lia
theorem Apr{a:Nat}:((a+1:Nat):Int)-(1:Int)=(a:Int):=Int.add_sub_cancel (a:Int) 1
theorem Aps{a0:Nat}(h0:((a0:Nat):Int) > (0:Int)):0 < a0:=Int.natCast_pos.mp h0
theorem Ajc{a b c:Nat}(h0:c<b)(h1:a<c):a<b:=Nat.lt_trans h1 h0
theorem Apt{a0:Nat}(h0:((a0:Nat):Int) > (0:Int)):(0:Int)<=((a0:Nat):Int):=Int.le_of_lt h0
theorem Apu{a b c:Nat}(h0:a≤b):a≤b+c:=zC h0 (zM _ _)
theorem Apv{a b c:Nat}(h0:((2*a+1+b:Nat):Int)<(c:Int)):2*a+1+b<c:=Int.ofNat_lt.mp h0
theorem Apw{a b:Nat}:(0:Int)≤((2*a+1+b:Nat):Int):=by lia
theorem Apx{a b:Nat}:a<2*a+1+b:=by grind
theorem Apy{a:Nat}:(2:Int)*(a:Int)+(1:Int)=((2*a+1+0:Nat):Int):=rfl
theorem Apz{a:Nat}:(2:Int)*(a:Int)+(2:Int)=((2*a+1+1:Nat):Int):=rfl
theorem Ap0{a b c:Nat}(h0:b<c)(h1:a=c-b):0<a:=h1▸Nat.sub_pos_of_lt h0
theorem Ap1{a b:Nat}(_:(a:Int)=(b:Int))(_:b<a):False:=by lia
theorem Ap2{a b c d:Nat}(_:d<a)(_:d<b)(_:b<a)(_:c=a-d):a-b<c:=by grind
theorem Ap3{a:Nat}:¬(((a+1:Nat):Int)=(0:Int)):=Int.natCast_ne_zero.mpr (Nat.succ_ne_zero a)
theorem Ajd{a:Nat}:(0:Int)<((a+1:Nat):Int):=Int.natCast_pos.mpr (Nat.succ_pos a)
theorem Ap4{a:Nat}:0<a+1:=zA (Nat.zero_le _) (Nat.lt_succ_self _)
theorem Ap5{a b:Nat}(_:b+1+1<100000)(_:a=b+1):a<100000:=by lia
theorem Aje{x0 x1:Int}(h0:x0<x1):x0≤x1-(1:Int):=Int.le_sub_one_of_lt h0
theorem Ajf{a b:Nat}(h0:¬((b:Int)<(a:Int))):a≤b:=Nat.not_lt.mp fun z=>h0 (Int.ofNat_lt.mpr z)
theorem Ajg{a:Nat}(h0:0<a):(0:Int)<(a:Int):=Int.natCast_pos.mpr h0
theorem Ap6{x0:Int}(h0:(0:Int)≤x0):x0=(((Int.toNat x0):Nat):Int):=(Int.toNat_of_nonneg h0).symm
theorem Ap7{a:Nat}{x0:Int}(h0:(0:Int)≤x0)(h1:x0<(a:Int)):(Int.toNat x0)<a:=(Int.toNat_lt h0).mpr h1
theorem Ap8{a:Nat}(h0:a<3):(0:Int)≤(a:Int):=Int.natCast_nonneg _
theorem Ap9{a:Nat}(h0:a<3):(a:Int)≤(1000000000:Int):=Int.ofNat_le.mpr (zL (Nat.lt_trans h0 (by decide:3 < 1000000000)))
theorem Aqa{a:Nat}(h0:a<12):(0:Int)≤(a:Int):=Int.natCast_nonneg _
theorem Aqb{a:Nat}(h0:a<12):(a:Int)≤(1000000000:Int):=Int.ofNat_le.mpr (zL (Nat.lt_trans h0 (by decide:12 < 1000000000)))
theorem Aqc{a:Nat}(h0:a<1000000001):(0:Int)≤(a:Int):=Int.natCast_nonneg _
theorem Aqd{a:Nat}(h0:a<1000000001):(a:Int)≤(1000000000:Int):=Int.ofNat_le.mpr (zK h0)
theorem Aqe{a:Nat}(h0:a<2):(0:Int)≤(1000000000:Int)-(a:Int):=Int.sub_nonneg_of_le (Int.ofNat_le.mpr (zC (zL h0) (by decide:2<=1000000000)))
theorem Aqf{a:Nat}(h0:a<2):(1000000000:Int)-(a:Int)≤(1000000000:Int):=Int.sub_le_self _ (Int.natCast_nonneg a)
theorem Aqg{a:Nat}(h0:a≤900):a≤16777216:=zL (zA h0 (by decide:900 < 16777216))
theorem Aqh{a:Nat}:(a:Int)+(3:Int)=((a+3:Nat):Int):=rfl
theorem Aqi{a b:Nat}(h0:(a:Int)+(3:Int)<(b:Int)):a+3<b:=Int.ofNat_lt.mp h0
theorem Ajh{a b c:Nat}(h0:a=c)(h1:¬(b<a)):a≤b:=Nat.not_lt.mp h1
theorem Aji{a b c:Nat}(h0:a-c=0)(h1:c=b)(h2:¬(a<c)):a=b:=h1▸Nat.le_antisymm (Nat.le_of_sub_eq_zero h0) (Nat.not_lt.mp h2)
theorem Aqj{a b c:Nat}(h0:c<b)(h1:a=c):a<b:=zA (zG h1) h0
theorem Aqk{a b c d:Nat}(h0:a=c+d):a+b=c+b+d:=(congrArg (·+b) h0).trans (Nat.add_right_comm c d b)
theorem Aql{a b c:Nat}:a+b+c+1=a+(b+(c+1)):=congrArg (·+1) (Nat.add_assoc a b c)
theorem Aqm{a:Nat}(h0:a≤1000):(-(1073741824:Int))≤(a:Int):=Agt
theorem Aqn{a:Nat}(h0:a≤1000):(a:Int)≤(1073741824:Int):=Int.ofNat_le.mpr (zL (zA h0 (by decide:1000 < 1073741824)))
theorem Aqo{a:Nat}:(Int.toNat (a:Int))=a:=rfl
theorem Aqp{a b c d a4 a5:Nat}(h0:c=d+a4+1)(h1:a5=a)(h2:a5≤b):a≤b:=zC (zG h1.symm) h2
theorem Ajj{a:Nat}(h0:a≤30):(-(1073741824:Int))≤(a:Int)∧(a:Int)≤(1073741824:Int):=⟨Agt,Int.ofNat_le.mpr (zC h0 (by decide:30<=1073741824))⟩
theorem Aqq{a b:Nat}(h0:(a:Int)<(b:Int))(h1:b≤30):a≤30:=zL (zD (Int.ofNat_lt.mp h0) h1)
theorem Aqr{a b c d:Nat}(h0:(b:Int)<(d:Int))(h1:c=16777216)(h2:a≤30*30)(h3:d≤30):a+b<c:=h1▸zA (Nat.add_le_add h2 (zC (zL (Int.ofNat_lt.mp h0)) h3)) (by decide)
theorem Ajk{a b:Nat}(h0:(a:Int)<(b:Int)):a+1≤b:=Int.ofNat_lt.mp h0
theorem Aqs{a:Nat}(h0:1≤a)(h1:a≤30):(1:Int)≤(a:Int):=Int.ofNat_le.mpr h0
theorem Aqt{a:Nat}(h0:1≤a)(h1:a≤30):(a:Int)≤(30:Int):=Int.ofNat_le.mpr h1
theorem Aqu{a b c:Nat}(h0:1≤b∧b≤30∧1≤a∧a≤30)(h1:c=a):1≤a:=h0.2.2.1
theorem Aqv{a b c:Nat}(h0:1≤b∧b≤30∧1≤a∧a≤30)(h1:c=a):a≤30:=h0.2.2.2
theorem Agw{a b:Nat}(h0:1≤a∧a≤30∧1≤b∧b≤30):0<a:=zD (by decide:0 < 1) h0.1
theorem Aqw{a b c:Nat}(h0:1≤b∧b≤30∧1≤c∧c≤30)(h1:a=b):0<a:=zD (zD (by decide:0 < 1) h0.1) (zG h1.symm)
theorem Ajl{a b c:Nat}(h0:1≤a∧a≤30∧1≤b∧b≤30)(h1:c=a):a<16777216:=zA h0.2.1 (by decide:30 < 16777216)
theorem Aqx{a0 a1 a2:Nat}(h0:a0 < a1):a0≠(a1+a2):=Nat.ne_of_lt (zD h0 (zM _ _))
theorem Aqy{a0 a1 a2:Nat}(h0:a0 < a1):a0≠(a1+(1 * a2)):=Nat.ne_of_lt (zD h0 (zM _ _))
theorem Aqz{a b c:Nat}(h0:b=a+c+1):a≤b:=zL (zA (zM _ _) (zG h0.symm))
theorem Aq0{a b c d:Nat}(h0:b=a+d+1):a≤b+c:=zL (zD (zA (zM _ _) (zG h0.symm)) (zM _ _))
theorem Aq1{a0 a1 a2 a3:Nat}(h0:a0 < a2)(h1:a1=((a2+a3)+1)):a0≠a1:=Nat.ne_of_lt (Nat.lt_trans (zD h0 (zM _ _)) (zG h1.symm))
theorem Aq2{a b:Nat}(h0:¬(b<a)):a+(b-a)=b:=Nat.add_sub_cancel' (Nat.not_lt.mp h0)
theorem Aq3{a b:Nat}(h0:b=16777216)(h1:a≤30):a<b:=zD (zA h1 (by decide:30 < 16777216)) (zG h0.symm)
theorem Aq4{a b:Nat}(h0:b=16777216)(h1:a≤30*30):a<b:=h0▸zA h1 (by decide)
theorem Aq5{x0 x1 x2:Int}(h0:x0<x2)(h1:x2≤x1):x0<x1:=Int.lt_of_lt_of_le h0 h1
theorem Aq6{a b:Nat}(h0:a≤b*1):a≤b+1:=zL (zA (zC h0 (zG (Nat.mul_one _))) (Nat.lt_succ_self _))
theorem Aq7{a b:Nat}(h0:a≤b*1):a<b+1:=Nat.lt_succ_of_le (zC h0 (zG (Nat.mul_one _)))
theorem Aq8{a:Nat}(h0:a<8):(0:Int)≤(a:Int):=Int.natCast_nonneg _
theorem Aq9{a b:Nat}(h0:a<4)(h1:b<5):1≤1+a∧1+a≤30∧1≤1+b∧1+b≤30:=⟨zM _ _,zC (zJ (zL h0) 1) (by decide),zM _ _,zC (zJ (zL h1) 1) (by decide)⟩
theorem Ara{a:Nat}(h0:a<4):1+a≤4:=Nat.add_comm a 1▸h0
theorem Arb{a:Nat}(h0:a<5):1+a≤5:=Nat.add_comm a 1▸h0
theorem Arc{a:Nat}(h0:a≤4*5):a≤132:=zL (zA h0 (by decide:(4 * 5) < 132))
theorem Ard{a b:Nat}(h0:1≤b∧b≤30∧1≤a∧a≤30):a≤1000:=zL (zA h0.2.2.2 (by decide:30 < 1000))
theorem Are{a b c:Nat}(h0:1≤c∧c≤30∧1≤a∧a≤30)(h1:b=16777216):a<b:=h1▸zA h0.2.2.2 (by decide)
theorem Ajm{a b c:Nat}(h0:1≤b∧b≤30∧1≤c∧c≤30)(h1:a<b):a≤29:=zK (zD h1 h0.2.1)
theorem Ahf{a b:Nat}(h0:1≤b∧b≤30∧1≤a∧a≤30):a≤30:=h0.2.2.2
theorem Arf{a b c d:Nat}(h0:1≤c∧c≤30∧1≤d∧d≤30)(h1:b<d)(h2:a≤29*30):a+b≤900:=zC (Nat.add_le_add h2 (zC (zL h1) h0.2.2.2)) (by decide)
theorem Ajn{a b c:Nat}(h0:1≤b∧b≤30∧1≤c∧c≤30)(h1:a<b):a≤16777216:=zL (Nat.lt_trans (zD h1 h0.2.1) (by decide:30 < 16777216))
theorem Arg{a b c:Nat}(h0:b=16777216)(h1:a=c)(h2:c≤1000):a<b:=zD (zA (zC (zG h1) h2) (by decide:1000 < 16777216)) (zG h0.symm)
theorem Ajo{a b:Nat}(h0:a<1000)(h1:b=16777216):a<b:=zD (Nat.lt_trans h0 (by decide:1000 < 16777216)) (zG h1.symm)
theorem Arh{a b:Nat}:a+1+2*b+1=a+2+2*b:=(Nat.add_right_comm (a+1) 1 (2 * b)).symm
theorem Ajp{a0 a1:Nat}:a0≠((a0+2)+(2 * a1)):=Nat.ne_of_lt (zD (Nat.lt_add_of_pos_right (by decide)) (zM _ _))
theorem Ari{a b:Nat}:a+2+2*b=a+1+2*b+1:=Nat.add_right_comm (a+1) 1 (2 * b)
theorem Arj{a b:Nat}(h0:1≤a∧a≤30∧1≤b∧b≤30):(-(1073741824:Int))≤(a:Int):=Int.le_trans (by decide) (Int.natCast_nonneg _)
theorem Ark{a b:Nat}(h0:1≤a∧a≤30∧1≤b∧b≤30):(a:Int)≤(1073741824:Int):=Int.ofNat_le.mpr (zL (zA h0.2.1 (by decide:30 < 1073741824)))
theorem Arl{a b c:Nat}(h0:(a:Int)<(b:Int))(h1:1≤b∧b≤30∧1≤c∧c≤30):a<1000:=zD (Int.ofNat_lt.mp h0) (zC h1.2.1 (by decide))
theorem Arm{a b c:Nat}(h0:1≤b∧b≤30∧1≤a∧a≤30)(h1:c=a):a≤1000:=zL (zA h0.2.2.2 (by decide:30 < 1000))
theorem Arn{a b:Nat}:a+1+2*b+1+1=a+1+2*(b+1):=rfl
theorem Aro{a b c d:Nat}(h0:1≤b∧b≤30∧1≤c∧c≤30)(h1:0<d)(h2:a=c):0<a:=zD (zD (by decide:0 < 1) h0.2.2.1) (zG h2.symm)
theorem Arp{a b:Nat}{x0 x1:Int}(h0:(0:Int)≤x0∧x0<(a:Int)∧(0:Int)≤x1∧x1<(b:Int)):x0=(((Int.toNat x0):Nat):Int):=(Int.toNat_of_nonneg h0.1).symm
theorem Arq{a b:Nat}{x0 x1:Int}(h0:(0:Int)≤x1∧x1<(a:Int)∧(0:Int)≤x0∧x0<(b:Int)):x0=(((Int.toNat x0):Nat):Int):=(Int.toNat_of_nonneg h0.2.2.1).symm
theorem Arr{a b:Nat}{x0 x1:Int}(h0:(0:Int)≤x0∧x0<(a:Int)∧(0:Int)≤x1∧x1<(b:Int)):(Int.toNat x0)<a:=(Int.toNat_lt h0.1).mpr h0.2.1
theorem Ars{a b:Nat}{x0 x1:Int}(h0:(0:Int)≤x1∧x1<(b:Int)∧(0:Int)≤x0∧x0<(a:Int)):(Int.toNat x0)<a:=(Int.toNat_lt h0.2.2.1).mpr h0.2.2.2
theorem Art{a b c d:Nat}(h0:a<b)(h1:c<d):(0:Int)≤(a:Int)∧(a:Int)<(b:Int)∧(0:Int)≤(c:Int)∧(c:Int)<(d:Int):=⟨Int.natCast_nonneg _,Int.ofNat_lt.mpr h0,Int.natCast_nonneg _,Int.ofNat_lt.mpr h1⟩
theorem Ajq{a:Nat}{x0:Int}(h0:(0:Int)≤x0∧x0≤(a:Int)-(1:Int)):(0:Int)≤x0:=h0.1
theorem Ajr{a:Nat}{x0:Int}(h0:(0:Int)≤x0∧x0≤(a:Int)-(1:Int)):x0<(a:Int):=Int.lt_of_le_sub_one h0.2
theorem Aru{a b:Nat}{x0 x1:Int}(h0:(0:Int)≤x1∧x1<(b:Int)∧(0:Int)≤x0∧x0<(a:Int)):x0≤(a:Int)-(1:Int):=Int.le_sub_one_of_lt h0.2.2.2
theorem Arv{a b:Nat}{x0 x1:Int}(h0:(0:Int)≤x0∧x0<(a:Int)∧(0:Int)≤x1∧x1<(b:Int)):x0≤(a:Int)-(1:Int):=Int.le_sub_one_of_lt h0.2.1
theorem Arw{a b c:Nat}(h0:c<1000)(h1:b=16777216)(h2:a≤c):a<b:=h1▸Nat.lt_trans (zA h2 h0) (by decide)
theorem Ajs{a0 a1 a2:Nat}(h0:a0 < a2)(h1:a2<=a1):a0≠a1:=Nat.ne_of_lt (zD h0 h1)
theorem Ajt{a b:Nat}(h0:(a:Int)=(b:Int))(h1:a<b):False:=Nat.ne_of_lt h1 (Int.ofNat.inj h0)
theorem Arx{a b c:Nat}(h0:a<(min b c)):a<b:=zD h0 (Nat.min_le_left _ _)
theorem Ary{x0 x1:Int}(h0:¬(x1<x0)):x0≤x1:=Int.not_lt.mp h0
theorem Arz{x0 x1:Int}(h0:x0<x1)(h1:x1≤x0):False:=Int.not_le.mpr h0 h1
theorem Ar0{a b c:Nat}(_:a<c):5*a+(b+1)≤5*c+b:=by lia
theorem Aju{a b c d:Nat}(h0:b<d)(h1:a≤c+1):a+b≤c+d:=zC (Nat.add_le_add_right h1 _) (zC (zG (Nat.add_right_comm _ _ _)) (zJ h0 _))
theorem Ar1{a b c d:Nat}(_:5*b+c<90000)(_:5*d+a≤5*b+c):a<100000:=by grind
theorem Ajv{a b c d:Nat}(_:b+c<90000)(_:a+d≤b+c):a<100000:=by lia
theorem Ar2{a b c:Nat}(_:5*b+a=c)(_:c<90000):a<100000:=by lia
theorem Ajw{a b c d a4:Nat}(_:5*a+c=d)(_:d<90000)(_:c=a4+1)(_:b=a4):5*a+b<90000:=by lia
theorem Ar3{a b c d a4 a5 a6:Nat}(_:5*d+a4=c)(_:5*a+b≤5*d+a5)(_:a4=a6+1)(_:a5=a6):5*a+b<c:=by lia
theorem Ar4{a b c d a4 a5 a6:Nat}(_:5*c+d=a4)(_:5*a+b≤5*c+a5)(_:a4<90000)(_:d=a6+1)(_:a5=a6):5*a+b<90000:=by lia
theorem Ajx{a b c d:Nat}(_:c+d<90000)(_:a+b≤c+d):a+b<90000:=by lia
theorem Ar5{a b c d a4:Nat}(_:5*a+d=c)(_:d=a4+1)(_:b=a4):5*a+b<c:=by lia
theorem Ar6{a b c:Nat}(_:5*b+a=c)(_:¬((0:Int)<(a:Int))):a=0:=by lia
theorem Ahg{a b c d:Nat}(_:b<c)(_:d≤30*30)(_:c≤d)(_:a≤b):a<100000:=by lia
theorem Ar7{a:Nat}:a≤a+3:=zL (Nat.lt_add_of_pos_right (by decide))
theorem Ar8{a0:Nat}:a0≠(a0+1):=Nat.ne_of_lt (Nat.lt_succ_self _)
theorem Ar9{a b:Nat}(h0:a=b+2):a≤b+2:=zG h0
theorem Asa{a b:Nat}(h0:a=b+2):a≤b+3:=h0▸Nat.le_succ _
theorem Asb{a:Nat}:a+3-(a+2)=1:=Nat.add_sub_add_left a 3 2
theorem Asd{a b c:Nat}(_:a≤132*133)(_:c≤132)(_:b≤c):5*a+b<90000:=by grind
theorem Ajy{a b c:Nat}(_:b≤132*133)(_:c≤132)(_:a≤c):a+b<90000:=by lia
theorem Ase{a b c d:Nat}(_:1≤c∧c≤30∧1≤d∧d≤30)(_:b<d)(_:a≤29*30):a+b≤16777216:=by lia
theorem Asf{a:Nat}(h0:a<5):(0:Int)≤(a:Int):=Int.natCast_nonneg _
theorem Asg{a b c:Nat}(h0:1≤a∧a≤30∧1≤b∧b≤30)(h1:c=a):(-(1073741824:Int))≤(a:Int):=Agt
theorem Ash{a b c:Nat}(h0:1≤a∧a≤30∧1≤b∧b≤30)(h1:c=a):(a:Int)≤(1073741824:Int):=Int.ofNat_le.mpr (zL (zA h0.2.1 (by decide:30 < 1073741824)))
theorem Asi{a b c:Nat}(h0:(a:Int)<(b:Int))(h1:c=b):a<b:=Int.ofNat_lt.mp h0
theorem Asj{a b:Nat}(h0:1≤b∧b≤30∧1≤a∧a≤30):(-(1073741824:Int))≤(a:Int):=Agt
theorem Ask{a b:Nat}(h0:1≤b∧b≤30∧1≤a∧a≤30):(a:Int)≤(1073741824:Int):=Int.ofNat_le.mpr (zL (zA h0.2.2.2 (by decide:30 < 1073741824)))
theorem Asl{a b c d:Nat}(h0:(a:Int)<(b:Int))(h1:1≤b∧b≤30∧1≤c∧c≤30)(h2:d=b):a≤29:=zK (zD (Int.ofNat_lt.mp h0) h1.2.1)
theorem Asm{a b c d a4:Nat}(h0:(b:Int)<(c:Int))(h1:1≤d∧d≤30∧1≤c∧c≤30)(h2:a4≤29*30)(h3:a≤a4+b):a<1000:=zA h3 (zD (Nat.add_lt_add_of_le_of_lt h2 (Int.ofNat_lt.mp h0)) (zC (zJ h1.2.2.2 _) (by decide)))
theorem Asn{a b:Nat}(h0:a<100)(h1:b=16777216):a<b:=zD (Nat.lt_trans h0 (by decide:100 < 16777216)) (zG h1.symm)
theorem Aso{a:Nat}(h0:a≤1):0+a<100:=zA (zC (zG (Nat.zero_add _)) h0) (by decide:1 < 100)
theorem Asp{a b:Nat}(h0:a≤1)(h1:b≤1):0+a+b<100:=zA (Nat.add_le_add (zJ h0 0) h1) (by decide)
theorem Asq{a b c:Nat}(h0:a≤1)(h1:b≤1)(h2:c≤1):0+a+b+c<100:=zA (Nat.add_le_add (Nat.add_le_add (zJ h0 0) h1) h2) (by decide)
theorem Asr{a:Nat}(h0:a≤4):a<1000:=zA h0 (by decide:4 < 1000)
theorem Ajz{x0 x1:Int}(h0:x0=x1):¬(x0<x1):=fun z=>Int.lt_irrefl _ (Int.lt_of_le_of_lt (Int.le_of_eq h0.symm) z)
theorem Aj0{x0 x1 x2 x3:Int}(h0:x1<x0∨x1=x0∧x3<x2):¬(x0<x1∨x0=x1∧x2<x3):=h0.elim (fun p=>fun h=>h.elim (Int.lt_asymm p) fun q=>Int.ne_of_lt p q.1.symm) fun p=>fun h=>h.elim (fun q=>Int.ne_of_lt q p.1.symm) fun q=>Int.lt_asymm p.2 q.2
theorem Ass{x0 x1 x2 x3 x4 x5:Int}(h0:¬(x4<x1∨x4=x1∧x5<x3))(h1:¬(x0<x4∨x0=x4∧x2<x5)):¬(x0<x1∨x0=x1∧x2<x3):=fun h=>h.elim (fun q=>h1 (.inl (Int.lt_of_lt_of_le q (Int.not_lt.mp fun z=>h0 (.inl z))))) fun h=>have e:x4=x1:=Int.le_antisymm (h.1▸Int.not_lt.mp fun z=>h1 (.inl z)) (Int.not_lt.mp fun z=>h0 (.inl z));h1 (.inr ⟨h.1.trans e.symm,Int.lt_of_lt_of_le h.2 (Int.not_lt.mp fun z=>h0 (.inr ⟨e,z⟩))⟩)
theorem Ast{x0 x1 x2 x3:Int}(h0:¬(x0<x1∨x0=x1∧x2<x3))(h1:¬(x1<x0∨x1=x0∧x3<x2)):x0=x1:=Int.le_antisymm (Int.not_lt.mp fun z=>h1 (.inl z)) (Int.not_lt.mp fun z=>h0 (.inl z))
theorem Asu{x0 x1 x2 x3:Int}(h0:¬(x2<x3∨x2=x3∧x0<x1))(h1:¬(x3<x2∨x3=x2∧x1<x0)):x0=x1:=have e:x2=x3:=Int.le_antisymm (Int.not_lt.mp fun z=>h1 (.inl z)) (Int.not_lt.mp fun z=>h0 (.inl z));Int.le_antisymm (Int.not_lt.mp fun z=>h1 (.inr ⟨e.symm,z⟩)) (Int.not_lt.mp fun z=>h0 (.inr ⟨e,z⟩))
theorem Asv{a:Nat}(h0:a≤132):a≤1000:=zL (zA h0 (by decide:132 < 1000))
theorem Aj1{a:Nat}(h0:a≤132):a<1000:=zA h0 (by decide:132 < 1000)
theorem Aj2{a b:Nat}(h0:1≤b∧b≤30∧1≤a∧a≤30):0<a:=zD (by decide:0 < 1) h0.2.2.1
theorem Ahh{a b c:Nat}(h0:1≤b∧b≤30∧1≤a∧a≤30)(h1:c=a):0<a:=zD (by decide:0 < 1) h0.2.2.1
theorem Aj3{a b c:Nat}(h0:1≤b∧b≤30∧1≤c∧c≤30)(h1:a=c):(0:Int)<(a:Int):=Int.natCast_pos.mpr (Nat.lt_of_lt_of_eq h0.2.2.1 h1.symm)
theorem Asw{a b c:Nat}(h0:c+a=c+b):a=b:=Nat.add_left_cancel h0
theorem Aj4{a0:Nat}:0≠(a0+1):=Nat.ne_of_lt (zA (Nat.zero_le _) (Nat.lt_succ_self _))
theorem Asx{a0 a1 a2 a3:Nat}(h0:(1<=a2)/\((a2<=30)/\((1<=a3)/\(a3<=30))))(h1:a1=a2):(a0+(1 * 0))≠(a0+a1):=Nat.ne_of_lt (Nat.add_lt_add_left (zD (zD (by decide:(1 * 0) < 1) h0.1) (zG h1.symm)) _)
theorem Asy{a0 a1 a2 a3 a4:Nat}(h0:(1<=a2)/\((a2<=30)/\((1<=a3)/\(a3<=30))))(h1:a1=(a0+a2))(h2:a4=a2):(a0+(1 * 0))≠a1:=Nat.ne_of_lt (zD (Nat.add_lt_add_left (zD (by decide:(1 * 0) < 1) h0.1) _) (zG h1.symm))
theorem Aj5{a b c d a4:Nat}(h0:1≤a∧a≤30∧1≤b∧b≤30)(h1:c=d+a)(h2:a4=a):0<a:=zD (by decide:0 < 1) h0.1
theorem Asz{a b c:Nat}(h0:b<1000)(h1:c<b)(h2:a≤c):a<16777216:=Nat.lt_trans (Nat.lt_trans (zA h2 h1) h0) (by decide:1000 < 16777216)
theorem As0{a b c:Nat}(h0:b=16777216)(h1:c≤132)(h2:a≤c):a<b:=zD (zA (zC h2 h1) (by decide:132 < 16777216)) (zG h0.symm)
theorem As1{a b:Nat}(h0:1≤a∧a≤30∧1≤b∧b≤30):a≤16777216:=zL (zA h0.2.1 (by decide:30 < 16777216))
theorem As2{a:Nat}(h0:a≤132):(-(1073741824:Int))≤(a:Int):=Int.le_trans (by decide) (Int.natCast_nonneg _)
theorem As3{a:Nat}(h0:a≤132):(a:Int)≤(1073741824:Int):=Int.ofNat_le.mpr (zL (zA h0 (by decide:132 < 1073741824)))
theorem As4{a:Nat}(h0:a≤132):(a:Int)≤(100000:Int):=Int.ofNat_le.mpr (zL (zA h0 (by decide:132 < 100000)))
theorem As5{a b:Nat}(h0:b≤132)(h1:a≤b):a<1000:=zA (zC h1 h0) (by decide:132 < 1000)
theorem As6{a0:Nat}:(a0+1)≠a0:=Nat.ne_of_gt (Nat.lt_succ_self _)
theorem As7{a b:Nat}(h0:¬((b:Int)<(a:Int))):a≤b+1:=zL (zA (Nat.not_lt.mp fun z=>h0 (Int.ofNat_lt.mpr z)) (Nat.lt_succ_self _))
theorem As8{a b:Nat}(h0:b≤132)(h1:a≤b):a<16777216:=zA (zC h1 h0) (by decide:132 < 16777216)
theorem As9{a0:Nat}(h0:(((a0:Nat):Int) - (1:Int)) > (0:Int)):(((a0:Nat):Int) - (1:Int))=(((a0 - 1):Nat):Int):=(Int.ofNat_sub (Int.ofNat_le.mp (Int.le_of_lt (Int.lt_of_sub_pos h0)))).symm
theorem Ata{a0:Nat}(h0:¬((((a0:Nat):Int) - (1:Int)) > (0:Int))):(0:Int)=(((a0 - 1):Nat):Int):=(congrArg Int.ofNat (Nat.sub_eq_zero_of_le (Int.ofNat_le.mp (Int.le_of_sub_nonpos (Int.not_lt.mp h0))))).symm
theorem Atb{a b c:Nat}(h0:1≤a∧a≤30∧1≤b∧b≤30)(h1:c=a):0<a:=zD (by decide:0 < 1) h0.1
theorem Atc{a b c:Nat}(h0:1≤a∧a≤30∧1≤b∧b≤30)(h1:c=a):¬((a:Int)=(0:Int)):=Int.natCast_ne_zero.mpr (Nat.ne_of_gt h0.1)
theorem Atd{a b:Nat}(h0:1≤b∧b≤30∧1≤a∧a≤30):¬((a:Int)=(0:Int)):=Int.natCast_ne_zero.mpr (Nat.ne_of_gt h0.2.2.1)
theorem Ate{a b:Nat}(h0:b≤132)(h1:a≤b):a≤132:=zC h1 h0
theorem Ae{P:Prop}(h:∀ G:Prop,(P->G)->G):P:=h P id
theorem Ad{α:Type}{a:α}{P:Prop}(h:(none:Option α)=some a):P:=nomatch h
theorem Al{P:Prop}(h:false=true):P:=nomatch h
open PySem
noncomputable section
inductive Val where
 | none
 | bool (b:Bool)
 | int (i:Int)
 | str (s:Str)
 | tup (vs:List Val)
 | loc (l:Nat)
 | script (ns:List Int)
 | rng (n:Int)
 | exc (c:Nat)
noncomputable def Abn(a b:List Val):Bool:=@decide (a=b) (Classical.propDecidable _)
theorem Xj(a b:List Val)(h:Abn a b=true):a=b:=@of_decide_eq_true _ (Classical.propDecidable _) h
theorem Rs(a:List Val):Abn a a=true:=@decide_eq_true _ (Classical.propDecidable _) rfl
noncomputable abbrev Key:=Int × Int
inductive HObj where
 | list (xs:List Val)
 | dict (es:List (Key × Val))
 | inst (c:Nat) (fs:List (Nat × Val))
 | hid
noncomputable abbrev Hp:=List HObj
inductive Res(α:Type) where
 | ok (a:α) (H:Hp)
 | exc (c:Nat) (H:Hp)
 | bad
theorem D4{α:Type}{a:α}{H:Hp}{P:Prop}(h:(Res.bad:Res α)=.ok a H):P:=nomatch h
theorem Ku{α:Type}{a:α}{c:Nat}{H H':Hp}{P:Prop}(h:(Res.exc c H':Res α)=.ok a H):P:=nomatch h
noncomputable def M(α:Type):=Hp->Res α
namespace M
noncomputable def ret{α:Type}(a:α):M α:=fun H=>.ok a H
noncomputable def bnd{α β:Type}(m:M α)(f:α->M β):M β:=fun H =>
 match m H with
 | .ok a H'=>f a H'
 | .exc c H'=>.exc c H'
 | .bad=>.bad
noncomputable def bad{α:Type}:M α:=fun _=>.bad
noncomputable def raise{α:Type}(c:Nat):M α:=fun H=>.exc c H
noncomputable def ofOpt{α:Type}:Option α->M α
 | some a=>ret a
 | none=>bad
noncomputable def look{α:Type}(f:Hp->Option α):M α:=fun H =>
 match f H with
 | some a=>.ok a H
 | none=>.bad
noncomputable def quiet{α:Type}(m:M α):M α:=fun H =>
 match m H with
 | .exc _ _=>.bad
 | r=>r
noncomputable def alloc(o:HObj):M Val:=fun H=>.ok (.loc H.length) (H++[o])
noncomputable def put(l:Nat)(o:HObj):M Unit:=fun H=>.ok () (H.set l o)
end M
theorem Du{α β:Type}{m:M α}{f:α->M β}{H H':Hp}{a:α}(h:m H=.ok a H'):(m.bnd f) H=f a H':=by
 unfold M.bnd;rw [h]
theorem E4{α β:Type}{m:M α}{f:α->M β}{H H':Hp}{c:Nat}(h:m H=.exc c H'):(m.bnd f) H=.exc c H':=by
 unfold M.bnd;rw [h]
theorem C9{α β:Type}{m:M α}{f:α->M β}{H:Hp}(h:m H=.bad):(m.bnd f) H=.bad:=by
 unfold M.bnd;rw [h]
inductive BOp where
 | add | sub | mul | fdiv | mod
inductive COp where
 | eq | ne | lt | le | gt | is | isNot | isin | notin
inductive Ty where
 | int | bool | str | tuple | list
 | cls (c:Nat)
inductive BF where
 | len | range | list | sorted | min2 | max2
inductive BM where
 | append | pop | dpop | clear | rstrip
set_option genCtorIdx false in
mutual
inductive ME where
 | none
 | bool (b:Bool)
 | int (i:Int)
 | str (s:Str)
 | glob (k:Nat)
 | var (i:Nat)
 | bin (op:BOp) (a b:ME)
 | neg (a:ME)
 | not (a:ME)
 | and (a b:ME)
 | or (a b:ME)
 | cmp (op:COp) (a b:ME)
 | cmp2 (op1 op2:COp) (a b c:ME)
 | sub (a i:ME)
 | tup (es:MEs)
 | list (es:MEs)
 | dict
 | attr (a:ME) (n:Nat)
 | call (f:Nat) (es:MEs)
 | new (c:Nat) (es:MEs)
 | umeth (a:ME) (m:Nat) (es:MEs)
 | bf (f:BF) (es:MEs)
 | bm (a:ME) (m:BM) (es:MEs)
 | isinst (a:ME) (t:Ty)
 | comp (elt:ME) (it:ME) (cond:MEo)
inductive MEo where
 | none
 | some (e:ME)
inductive MEs where
 | nil
 | cons (e:ME) (es:MEs)
end
set_option genCtorIdx false in
mutual
inductive MS where
 | expr (e:ME)
 | assign (i:Nat) (e:ME)
 | setattr (o:ME) (n:Nat) (e:ME)
 | setitem (o i:ME) (e:ME)
 | ret (e:MEo)
 | ite (c:ME) (t f:MSs)
 | loop (c:ME) (body:MSs)
 | each (i:Nat) (it:ME) (body:MSs)
 | eachZip (i j:Nat) (a b:ME) (body:MSs)
 | raise (c:Nat) (msg:Str)
 | tryx (body:MSs) (hs:MHs)
inductive MSs where
 | nil
 | cons (s:MS) (ss:MSs)
inductive MHs where
 | nil
 | cons (c:Nat) (i:Option Nat) (body:MSs) (hs:MHs)
end
structure MFun where
 arity:Nat
 nvars:Nat
 body:MSs
structure Tab where
 funs:List MFun
 /-- of each class: its methods,by the name's number;number 0 is __init__ -/
 meths:List (List (Nat × Nat))
 /-- of each class: the classes that it stands under (itself too) -/
 subs:List (List Nat)
 globs:List Val
noncomputable def Tab.meth(T:Tab)(c m:Nat):Option Nat:=(T.meths[c]?).bind fun l=>l.lookup m
noncomputable def Tab.sub(T:Tab)(c d:Nat):Bool:=((T.subs[c]?).getD []).contains d
noncomputable def Tab.isExc(T:Tab)(c:Nat):Bool:=(T.meth c 0).isNone && decide (2<=((T.subs[c]?).getD []).length)
mutual
noncomputable def Jq(K:Nat->Bool):ME->Bool
 | .none=>true
 | .bool _=>true
 | .int _=>true
 | .str _=>true
 | .var _=>true
 | .bin _ a b=>Jq K a && Jq K b
 | .cmp _ a b=>Jq K a && Jq K b
 | .isinst a _=>Jq K a
 | .call f es=>K f && calmEs K es
 | .bm a m es=>(match m with | .rstrip=>true | _=>false) && Jq K a && calmEs K es
 | _=>false
noncomputable def calmEs(K:Nat->Bool):MEs->Bool
 | .nil=>true
 | .cons e es=>Jq K e && calmEs K es
end
noncomputable def Ahi(K:Nat->Bool):MEo->Bool
 | .none=>true
 | .some e=>Jq K e
mutual
noncomputable def Aeu(K:Nat->Bool):MS->Bool
 | .assign _ e=>Jq K e
 | .ret e=>Ahi K e
 | .ite c t f=>Jq K c && calmSs K t && calmSs K f
 | _=>false
noncomputable def calmSs(K:Nat->Bool):MSs->Bool
 | .nil=>true
 | .cons s ss=>Aeu K s && calmSs K ss
end
noncomputable def Fh(T:Tab)(k:Nat):Bool:=match T.funs[k]? with
 | some f=>calmSs (fun _=>false) f.body
 | none=>false
noncomputable def lid:Nat:=16777216
noncomputable def Jd(f:Val->Option PyData):List Val->Option (List PyData)
 | []=>some []
 | x :: xs =>
  match f x,Jd f xs with
  | some d,some ds=>some (d :: ds)
  | _,_=>none
noncomputable def Tl:Val->Option PyData
 | .none=>some .none
 | .bool b=>some (.bool b)
 | .int i=>some (.int i)
 | .str s=>if PyData.strOk s=true then some (.str s) else none
 | _=>none
noncomputable def A6(H:Hp):Nat->Val->Option PyData
 | 0,v=>Tl v
 | n+1,v =>
  match v with
  | .tup vs=>(Jd (A6 H n) vs).map .tuple
  | .loc l =>
   match H[l]? with
   | some (.list xs)=>(Jd (A6 H n) xs).map .list
   | _=>none
  | v=>Tl v
noncomputable def Fi:Nat:=6
noncomputable def Hb(H:Hp)(a b:Val):Option Bool :=
 match A6 H Fi a,A6 H Fi b with
 | some x,some y=>some (PyData.eqv x y)
 | _,_=>none
noncomputable def lts(e f:Val->Val->Option Bool):List Val->List Val->Option Bool
 | [],[]=>some false
 | [],_ :: _=>some true
 | _ :: _,[]=>some false
 | x :: xs,y :: ys =>
  match e x y with
  | some true=>lts e f xs ys
  | some false=>f x y
  | none=>none
noncomputable def Aeq:Val->Option Int
 | .int i=>some i
 | _=>none
noncomputable def Aj6:Val->Option (List Val)
 | .tup i=>some i
 | _=>none
noncomputable def Agx(p:Int->Int->Bool)(a b:Val):Option Bool:=(Aeq a).bind fun x=>(Aeq b).map fun y=>p x y
noncomputable def Jr:Nat->Val->Val->Option Bool
 | 0,_,_=>none
 | n+1,a,b =>
  match a with
  | .int x=>(Aeq b).map fun y=>decide (x < y)
  | .tup xs=>(Aj6 b).bind fun ys=>lts (Hb []) (Jr n) xs ys
  | _=>none
noncomputable def Atf(a b:Val):List Val->Option (Val × Val)
 | []=>some (a,b)
 | _ :: _=>none
noncomputable def Atg(a:Val):List Val->Option (Val × Val)
 | []=>none
 | b :: vs=>Atf a b vs
noncomputable def Ahj:Val->Option (Val × Val)
 | .tup vs=>(match vs with
  | []=>none
  | a :: vs=>Atg a vs)
 | _=>none
noncomputable def Es(v:Val):Option Key:=(Ahj v).bind fun p=>(Aeq p.1).bind fun a=>(Aeq p.2).map fun b=>(a,b)
noncomputable def Ab(k:Key):Val:=.tup [.int k.1,.int k.2]
noncomputable def Fj(es:List (Key × Val))(k:Key):Option Val:=es.lookup k
noncomputable def Id:List (Key × Val)->Key->Val->List (Key × Val)
 | [],k,v=>[(k,v)]
 | (k',v') :: es,k,v=>if k'=k then (k',v) :: es else (k',v') :: Id es k v
noncomputable def Abo:List (Key × Val)->Key->List (Key × Val)
 | [],_=>[]
 | (k',v') :: es,k=>if k'=k then es else (k',v') :: Abo es k
noncomputable def Ng(H:Hp)(x:Val)(ys:List Val):Option Bool :=
 match A6 H Fi x,Jd (A6 H Fi) ys with
 | some d,some ds=>some (ds.any fun y=>PyData.eqv y d)
 | _,_=>none
noncomputable def small(a:Int):Bool:=decide (-(2 ^ 64) < a) && decide (a < 2 ^ 64)
noncomputable def Aer(op:BOp)(a b:Val):M Val :=
 match op,a,b with
 | .add,.int x,.int y=>.ret (.int (x+y))
 | .sub,.int x,.int y=>.ret (.int (x - y))
 | .mul,.int x,.int y=>if (small x || small y)=true then .ret (.int (x * y)) else .bad
 | .fdiv,.int x,.int y=>if y=0\/1073741824<=y.natAbs then .bad else .ret (.int (Int.fdiv x y))
 | .mod,.int x,.int y=>if y=0 then .bad else .ret (.int (Int.fmod x y))
 | .add,.str x,.str y=>if x.length+y.length<=lid then .ret (.str (x++y)) else .bad
 | _,_,_=>.bad
noncomputable def Aad(_neg:Bool):Option Bool->Option Bool
 | some b=>some (!b)
 | none=>none
noncomputable def isV(a b:Val):Option Bool :=
 match b with
 | .none=>some (match a with | .none=>true | _=>false)
 | _=>none
noncomputable def inV(a b:Val)(H:Hp):Option Bool :=
 match b with
 | .loc l =>
  match H[l]? with
  | some (.list ys)=>Ng H a ys
  | some (.dict es)=>match Es a with
   | some k=>some (Fj es k).isSome
   | none=>none
  | _=>none
 | _=>none
noncomputable def D2(op:COp)(a b:Val)(H:Hp):Option Bool :=
 match op with
 | .eq=>Hb H a b
 | .ne=>Aad true (Hb H a b)
 | .lt=>Jr Fi a b
 | .gt=>Agx (fun x y=>decide (x > y)) a b
 | .le=>Agx (fun x y=>decide (x<=y)) a b
 | .is=>isV a b
 | .isNot=>Aad true (isV a b)
 | .isin=>inV a b H
 | .notin=>Aad true (inV a b H)
noncomputable def C0(v:Val)(H:Hp):Option (List Val × Option Nat) :=
 match v with
 | .loc l =>
  match H[l]? with
  | some (.list xs)=>some (xs,some l)
  | _=>none
 | .tup xs=>some (xs,none)
 | .rng n=>some ((List.range n.toNat).map (fun (k:Nat)=>.int (k:Int)),none)
 | _=>none
noncomputable def chk(src:Option Nat)(xs:List Val)(H:Hp):Bool :=
 match src with
 | none=>true
 | some l =>
  match H[l]? with
  | some (.list ys)=>Abn ys xs
  | _=>false
noncomputable def C1(v:Val)(H:Hp):Option (List Val) :=
 match v with
 | .loc l =>
  match H[l]? with
  | some (.list xs)=>some xs
  | _=>none
 | .tup xs=>some xs
 | .script ns=>some (ns.map .int)
 | _=>none
noncomputable def C2(i:Int)(n:Nat):Option Nat :=
 if 0<=i then (if i < n then some i.toNat else none) else (if -(n:Int)<=i then some (i+n).toNat else none)
noncomputable def Dm(a i:Val):M Val:=.look fun H =>
 match a,i with
 | .loc l,i =>
  match H[l]?,i with
  | some (.list xs),.int k=>(C2 k xs.length).bind fun p=>xs[p]?
  | some (.dict es),i=>(Es i).bind (Fj es)
  | _,_=>none
 | .tup xs,.int k=>if 0<=k then xs[k.toNat]? else none
 | .script ns,.int k=>(C2 k ns.length).bind fun p=>(ns[p]?).map .int
 | _,_=>none
structure Order(xs:List Val)(lt:Val->Val->Bool):Prop where
 is:∀ x∈xs,∀ y∈xs,Jr Fi x y=some (lt x y)
 asym:∀ x∈xs,∀ y∈xs,lt x y=true->lt y x=false
 tr:∀ x∈xs,∀ y∈xs,∀ z∈xs,lt y x=false->lt z y=false->lt z x=false
 anti:∀ x∈xs,∀ y∈xs,lt x y=false->lt y x=false->x=y
noncomputable def Je(xs:List Val):Prop:=xs.length<=1000/\xs.Nodup/\(∀ x∈xs,∃ k:Key,x=Ab k)/\∃ lt,Order xs lt
noncomputable def Hc(xs ys:List Val):Prop:=ys.Perm xs/\ys.Pairwise fun a b=>Jr Fi b a=some false
open Classical in
noncomputable def Fk(xs:List Val):Option (List Val):=if h:Je xs/\∃ ys,Hc xs ys then some (choose h.2) else none
theorem Js{xs:List Val}{lt:Val->Val->Bool}(O:Order xs lt):∀ (ys zs:List Val),(∀ y∈ys,y∈xs)->ys.Perm zs->(ys.Pairwise fun a b=>Jr Fi b a=some false)->(zs.Pairwise fun a b=>Jr Fi b a=some false)->ys=zs
 | [],zs,_,p,_,_=>(List.nil_perm.mp p).symm
 | y :: ys,[],_,p,_,_=>by have:=p.length_eq;simp at this
 | y :: ys,z :: zs,hs,p,sy,sz=>by
  have hy:=List.pairwise_cons.mp sy
  have hz:=List.pairwise_cons.mp sz
  have my:y∈xs:=hs y (.head _)
  have mz:z∈xs:=hs z (p.mem_iff.mpr (.head _))
  have irr:∀ x∈xs,lt x x=false:=fun x hx=>by
   cases q:lt x x with
   | false=>rfl
   | true=>rw [O.asym x hx x hx q] at q;exact nomatch q
  have g:∀ a∈xs,∀ b∈xs,Jr Fi a b=some false->lt a b=false:=fun a ha b hb h=>by rw [O.is a ha b hb] at h;exact Option.some.inj h
  have e:y=z:=by
   refine O.anti y my z mz ?_ ?_
   · have m2:y∈z :: zs:=p.mem_iff.mp (.head _)
     cases m2 with
     | head=>exact irr _ my
     | tail _ h=>exact g y my z mz (hz.1 y h)
   · have m1:z∈y :: ys:=p.mem_iff.mpr (.head _)
     cases m1 with
     | head=>exact irr _ mz
     | tail _ h=>exact g z mz y my (hy.1 z h)
  subst e
  rw [Js O ys zs (fun x hx=>hs x (.tail _ hx)) (List.perm_cons y |>.mp p) hy.2 hz.2]
theorem Nh{xs ys:List Val}(h:Je xs)(s:Hc xs ys):Fk xs=some ys:=by
 have q:Je xs/\∃ ys,Hc xs ys:=⟨h,ys,s⟩
 unfold Fk
 rw [dif_pos q]
 obtain ⟨lt,O⟩:=h.2.2.2
 have c:=Classical.choose_spec q.2
 rw [Js O _ ys (fun y hy=>c.1.mem_iff.mp hy) (c.1.trans s.1.symm) c.2 s.2]
set_option tactic.hygienic true in
theorem Jt{xs ys:List Val}(h:Fk xs=some ys):Je xs/\Hc xs ys:=by
 unfold Fk at h
 split at h
 · rename_i q
   cases h
   exact ⟨q.1,Classical.choose_spec q.2⟩
 · cases h
noncomputable def Ej(l:Nat)(H:Hp):Option (List Val):=match H[l]? with
 | some (.list xs)=>some xs
 | _=>none
noncomputable def dd:List Key->List Key
 | []=>[]
 | k :: ks=>if k∈ks then dd ks else k :: dd ks
noncomputable def bfV(f:BF)(args:List Val):M Val :=
 match f,args with
 | .len,[v]=>.look fun H =>
  match v with
  | v=>(C1 v H).map fun xs=>.int xs.length
 | .range,[.int n]=>if -1073741824<=n/\n<=1073741824 then .ret (.rng n) else .bad
 | .list,[v]=>fun H =>
  match v with
  | .rng n=>if n<=100000 then M.alloc (.list ((List.range n.toNat).map fun (k:Nat)=>.int (k:Int))) H else .bad
  | .loc _=>match C1 v H with
   | some xs=>M.alloc (.list xs) H
   | none=>.bad
  | _=>.bad
 | .sorted,[.loc l]=>fun H =>
  match (Ej l H).bind Fk with
  | some ys=>M.alloc (.list ys) H
  | none=>.bad
 | .min2,[.int a,.int b]=>.ret (.int (if b < a then b else a))
 | .max2,[.int a,.int b]=>.ret (.int (if b > a then b else a))
 | _,_=>.bad
noncomputable def bmV(m:BM)(o:Val)(args:List Val):M Val:=fun H =>
 match o with
 | .str s =>
  match m,args with
  | .rstrip,[]=>if (Txt.rstrip s).length<=lid then .ok (.str (Txt.rstrip s)) H else .bad
  | _,_=>.bad
 | .loc l =>
  match H[l]? with
  | some (.list xs) =>
   match m,args with
   | .append,[v]=>if xs.length < lid then .ok .none (H.set l (.list (xs++[v]))) else .bad
   | .pop,[]=>match xs.getLast? with
    | some v=>.ok v (H.set l (.list xs.dropLast))
    | none=>.bad
   | .clear,[]=>.ok .none (H.set l (.list []))
   | _,_=>.bad
  | some (.dict es) =>
   match m,args with
   | .dpop,[k]=>match Es k with
    | some k=>match Fj es k with
     | some v=>.ok v (H.set l (.dict (Abo es k)))
     | none=>.bad
    | none=>.bad
   | _,_=>.bad
  | _=>.bad
 | _=>.bad
inductive Kd where
 | none | bool | int | str | tuple | list | dict
noncomputable def Qa(H:Hp):Val->Option Kd
 | .none=>some .none
 | .bool _=>some .bool
 | .int _=>some .int
 | .str _=>some .str
 | .tup _=>some .tuple
 | .script _=>some .list
 | .loc l =>
  match H[l]? with
  | some (.list _)=>some .list
  | some (.dict _)=>some .dict
  | _=>none
 | _=>none
noncomputable def Aae:Ty->Kd->Bool
 | .int,.int=>true
 | .int,.bool=>true
 | .bool,.bool=>true
 | .str,.str=>true
 | .tuple,.tuple=>true
 | .list,.list=>true
 | _,_=>false
noncomputable def Ba(T:Tab)(v:Val)(t:Ty):M Val:=.look fun H =>
 match t with
 | .cls d =>
  match v with
  | .exc c=>if T.isExc c=true then some (.bool (T.sub c d)) else none
  | _=>none
 | t=>(Qa H v).map fun k=>.bool (Aae t k)
noncomputable def Ja(v:Val)(n:Nat):M Val:=.look fun H =>
 match v with
 | .loc l =>
  match H[l]? with
  | some (.inst _ fs)=>fs.lookup n
  | _=>none
 | _=>none
noncomputable def Tk:List (Nat × Val)->Nat->Val->List (Nat × Val)
 | [],n,v=>[(n,v)]
 | (m,u) :: r,n,v=>if m=n then (m,v) :: r else (m,u) :: Tk r n v
theorem Ni{m:Nat}{u:Val}{r:List (Nat × Val)}{n:Nat}{v:Val}:Tk ((m,u) :: r) n v=if m=n then (m,v) :: r else (m,u) :: Tk r n v:=rfl
noncomputable def Bo(o:Val)(n:Nat)(v:Val):M Unit:=fun H =>
 match o with
 | .loc l =>
  match H[l]? with
  | some (.inst c fs)=>.ok () (H.set l (.inst c (Tk fs n v)))
  | _=>.bad
 | _=>.bad
noncomputable def A4(o i v:Val):M Unit:=fun H =>
 match o with
 | .loc l =>
  match H[l]? with
  | some (.list xs) =>
   match i with
   | .int k=>if 0<=k/\k < xs.length then .ok () (H.set l (.list (xs.set k.toNat v))) else .bad
   | _=>.bad
  | some (.dict es) =>
   match Es i with
   | some k=>if es.length < lid then .ok () (H.set l (.dict (Id es k v))) else .bad
   | none=>.bad
  | _=>.bad
 | _=>.bad
noncomputable def Qb:BM->String
 | .append=>"list"
 | .pop=>"list"
 | .dpop=>"dict"
 | .clear=>"list"
 | .rstrip=>"str"
noncomputable def Ju(o:Val)(H:Hp):Option String :=
 match o with
 | .str _=>some "str"
 | .loc l =>
  match H[l]? with
  | some (.list _)=>some "list"
  | some (.dict _)=>some "dict"
  | _=>none
 | _=>none
noncomputable def Fr(m:BM)(o:Val)(H:Hp):Option Unit:=if Ju o H=some (Qb m) then some () else none
noncomputable def C3:Val->M Bool
 | .bool b=>.ret b
 | _=>.bad
noncomputable abbrev Env':=List (Option Val)
noncomputable abbrev Funs:=Nat->List Val->M Val
noncomputable def E5(chk:Hp->Bool)(step:Val->M (Option Val)):List Val->M (List Val)
 | []=>fun H=>if chk H=true then .ok [] H else .bad
 | x :: xs=>fun H=>if chk H=true then ((step x).bnd fun r=>(E5 chk step xs).bnd fun ys=>.ret (match r with | some y=>y :: ys | none=>ys)) H else .bad
noncomputable def Ru(T:Tab)(Φ:Funs)(c:Nat)(args:List Val):M Val :=
 match T.meth c 0 with
 | some k=>(M.alloc (.inst c [])).bnd fun o=>(Φ k (o :: args)).bnd fun r=>match r with
  | .none=>.ret o
  | _=>.bad
 | none=>.bad
noncomputable def Cu(T:Tab)(o:Val)(m:Nat):M Nat:=.look fun H =>
 match o with
 | .loc l =>
  match H[l]? with
  | some (.inst c _)=>T.meth c m
  | _=>none
 | _=>none
mutual
noncomputable def Aj(T:Tab)(Φ:Funs):ME->Env'->M Val
 | .none,_=>.ret .none
 | .bool b,_=>.ret (.bool b)
 | .int i,_=>.ret (.int i)
 | .str s,_=>.ret (.str s)
 | .glob k,_=>.ofOpt T.globs[k]?
 | .var i,Γ=>.ofOpt (match Γ[i]? with | some (some v)=>some v | _=>none)
 | .bin op a b,Γ=>(Aj T Φ a Γ).bnd fun x=>(Aj T Φ b Γ).bnd fun y=>Aer op x y
 | .neg a,Γ=>(Aj T Φ a Γ).bnd fun x=>match x with
  | .int i=>.ret (.int (-i))
  | _=>.bad
 | .not a,Γ=>(Aj T Φ a Γ).bnd fun x=>(C3 x).bnd fun b=>.ret (.bool (!b))
 | .and a b,Γ=>(Aj T Φ a Γ).bnd fun x=>(C3 x).bnd fun t=>match t with
  | true=>Aj T Φ b Γ
  | false=>.ret (.bool false)
 | .or a b,Γ=>(Aj T Φ a Γ).bnd fun x=>(C3 x).bnd fun t=>match t with
  | true=>.ret (.bool true)
  | false=>Aj T Φ b Γ
 | .cmp op a b,Γ=>(Aj T Φ a Γ).bnd fun x=>(Aj T Φ b Γ).bnd fun y=>(M.look (D2 op x y)).bnd fun r=>.ret (.bool r)
 | .cmp2 op1 op2 a b c,Γ=>(Aj T Φ a Γ).bnd fun x=>(Aj T Φ b Γ).bnd fun y=>(M.look (D2 op1 x y)).bnd fun r=>match r with
  | true=>(Aj T Φ c Γ).bnd fun z=>(M.look (D2 op2 y z)).bnd fun r=>.ret (.bool r)
  | false=>.ret (.bool false)
 | .sub a i,Γ=>(Aj T Φ a Γ).bnd fun x=>(Aj T Φ i Γ).bnd fun y=>Dm x y
 | .tup es,Γ=>(evalEs T Φ es Γ).bnd fun vs=>.ret (.tup vs)
 | .list es,Γ=>(evalEs T Φ es Γ).bnd fun vs=>M.alloc (.list vs)
 | .dict,_=>M.alloc (.dict [])
 | .attr a n,Γ=>(Aj T Φ a Γ).bnd fun x=>Ja x n
 | .call f es,Γ=>(evalEs T Φ es Γ).bnd fun vs=>Φ f vs
 | .new c es,Γ=>match T.meth c 0 with
  | some _=>(evalEs T Φ es Γ).bnd fun vs=>Ru T Φ c vs
  | none=>M.bad
 | .umeth a m es,Γ=>(Aj T Φ a Γ).bnd fun o=>(Cu T o m).bnd fun k=>(evalEs T Φ es Γ).bnd fun vs=>Φ k (o :: vs)
 | .bf f es,Γ=>(evalEs T Φ es Γ).bnd fun vs=>bfV f vs
 | .bm a m es,Γ=>(Aj T Φ a Γ).bnd fun o=>(M.look (Fr m o)).bnd fun _=>(evalEs T Φ es Γ).bnd fun vs=>bmV m o vs
 | .isinst a t,Γ=>(Aj T Φ a Γ).bnd fun x=>Ba T x t
 | .comp elt it cond,Γ=>(Aj T Φ it Γ).bnd fun v=>(M.look (C0 v)).bnd fun p =>
  (M.quiet (E5 (chk p.2 p.1) (fun x=>(evalC T Φ cond (Γ++[some x])).bnd fun b=>match b with
   | true=>(Aj T Φ elt (Γ++[some x])).bnd fun y=>.ret (some y)
   | false=>.ret none) p.1)).bnd fun ys=>if ys.length < lid then M.alloc (.list ys) else .bad
noncomputable def Abp(T:Tab)(Φ:Funs):MEo->Env'->M Val
 | .none,_=>.ret .none
 | .some e,Γ=>Aj T Φ e Γ
noncomputable def evalC(T:Tab)(Φ:Funs):MEo->Env'->M Bool
 | .none,_=>.ret true
 | .some e,Γ=>(Aj T Φ e Γ).bnd C3
noncomputable def evalEs(T:Tab)(Φ:Funs):MEs->Env'->M (List Val)
 | .nil,_=>.ret []
 | .cons e es,Γ=>(Aj T Φ e Γ).bnd fun v=>(evalEs T Φ es Γ).bnd fun vs=>.ret (v :: vs)
end
inductive ResS where
 | next (Γ:Env') (H:Hp)
 | ret (v:Val) (H:Hp)
 | exc (c:Nat) (Γ:Env') (H:Hp)
 | bad
noncomputable def Gm{α:Type}(m:M α)(Γ:Env')(f:α->Hp->ResS)(H:Hp):ResS :=
 match m H with
 | .ok a H'=>f a H'
 | .exc c H'=>.exc c Γ H'
 | .bad=>.bad
noncomputable def Nj(r:ResS)(f:Env'->Hp->ResS):ResS :=
 match r with
 | .next Γ H=>f Γ H
 | .ret v H=>.ret v H
 | .exc c Γ H=>.exc c Γ H
 | .bad=>.bad
noncomputable def Fm(chk:Hp->Bool)(bind:Val->Env'->Option Env')(body:Env'->Hp->ResS):List Val->Env'->Hp->ResS
 | [],Γ,H=>if chk H=true then .next Γ H else .bad
 | x :: xs,Γ,H=>if chk H=true then (match bind x Γ with
  | some Γ'=>Nj (body Γ' H) (Fm chk bind body xs)
  | none=>.bad) else .bad
noncomputable def I2(cond:Env'->M Bool)(body:Env'->Hp->ResS):Nat->Env'->Hp->ResS
 | 0,_,_=>.bad
 | n+1,Γ,H =>
  match cond Γ H with
  | .ok true H' =>
   match body Γ H' with
   | .next Γ' H''=>I2 cond body n Γ' H''
   | .ret v H''=>.ret v H''
   | _=>.bad
  | .ok false H'=>.next Γ H'
  | _=>.bad
theorem Nk{chk:Hp->Bool}{bind:Val->Env'->Option Env'}{body:Env'->Hp->ResS}{Γ:Env'}{H:Hp}:Fm chk bind body [] Γ H=if chk H=true then .next Γ H else .bad:=rfl
theorem Kv{chk:Hp->Bool}{bind:Val->Env'->Option Env'}{body:Env'->Hp->ResS}{x:Val}{xs:List Val}{Γ:Env'}{H:Hp}:Fm chk bind body (x :: xs) Γ H=if chk H=true then (match bind x Γ with
 | some Γ'=>Nj (body Γ' H) (Fm chk bind body xs)
 | none=>.bad) else .bad:=rfl
theorem Jv{cond:Env'->M Bool}{body:Env'->Hp->ResS}{n:Nat}{Γ:Env'}{H:Hp}:I2 cond body (n+1) Γ H=(match cond Γ H with
 | .ok true H' =>
  match body Γ H' with
  | .next Γ' H''=>I2 cond body n Γ' H''
  | .ret v H''=>.ret v H''
  | _=>.bad
 | .ok false H'=>.next Γ H'
 | _=>.bad):=rfl
noncomputable def Rv:Nat:=2 ^ 40
noncomputable def Dw:List Val->List Val->List Val
 | a :: as,b :: bs=>.tup [a,b] :: Dw as bs
 | _,_=>[]
noncomputable def Rw(i:Nat)(v:Val)(Γ:Env'):Option Env':=some (Γ.set i (some v))
noncomputable def Abq(i j:Nat)(v:Val)(Γ:Env'):Option Env':=(Ahj v).map fun p=>(Γ.set i (some p.1)).set j (some p.2)
noncomputable def Hd(v:Val)(H:Hp):Option (List Val × Nat) :=
 match v with
 | .loc l =>
  match H[l]? with
  | some (.list xs)=>some (xs,l)
  | _=>none
 | _=>none
noncomputable def Nl(v w:Val)(H:Hp):Option ((List Val × Option Nat) × (List Val × Option Nat)) :=
 match Hd v H,Hd w H with
 | some p,some q=>some ((p.1,some p.2),(q.1,some q.2))
 | _,_=>none
noncomputable def Nm(l:Nat)(H:Hp):Bool :=
 match H[l]? with
 | some .hid=>true
 | _=>false
mutual
noncomputable def Da(T:Tab)(Φ:Funs):MS->Env'->Hp->ResS
 | .expr e,Γ,H=>Gm (Aj T Φ e Γ) Γ (fun _ H=>.next Γ H) H
 | .assign i e,Γ,H=>Gm (Aj T Φ e Γ) Γ (fun v H=>.next (Γ.set i (some v)) H) H
 | .setattr o n e,Γ,H=>Gm (Aj T Φ e Γ) Γ (fun v=>Gm (Aj T Φ o Γ) Γ fun o=>Gm (Bo o n v) Γ fun _ H=>.next Γ H) H
 | .setitem o i e,Γ,H=>Gm (Aj T Φ e Γ) Γ (fun v=>Gm (Aj T Φ o Γ) Γ fun o=>Gm (Aj T Φ i Γ) Γ fun i=>Gm (A4 o i v) Γ fun _ H=>.next Γ H) H
 | .ret e,Γ,H=>Gm (Abp T Φ e Γ) Γ (fun v H=>.ret v H) H
 | .ite c t f,Γ,H=>Gm ((Aj T Φ c Γ).bnd C3) Γ (fun b=>match b with
  | true=>execSs T Φ t Γ
  | false=>execSs T Φ f Γ) H
 | .loop c body,Γ,H=>I2 (fun Γ=>(Aj T Φ c Γ).bnd C3) (execSs T Φ body) Rv Γ H
 | .each i it body,Γ,H=>Gm (Aj T Φ it Γ) Γ (fun v=>Gm (M.look (C0 v)) Γ fun p=>Fm (chk p.2 p.1) (Rw i) (execSs T Φ body) p.1 Γ) H
 | .eachZip i j a b body,Γ,H=>Gm (Aj T Φ a Γ) Γ (fun v=>Gm (Aj T Φ b Γ) Γ fun w=>Gm (M.look (Nl v w)) Γ fun p=>fun H =>
  if p.1.1.length=p.2.1.length then Fm (fun H'=>chk p.1.2 p.1.1 H' && chk p.2.2 p.2.1 H' && Nm H.length H') (Abq i j) (execSs T Φ body) (Dw p.1.1 p.2.1) Γ (H++[.hid]) else .bad) H
 | .raise c _,Γ,H=>if T.isExc c=true then .exc c Γ H else .bad
 | .tryx body hs,Γ,H =>
  match execSs T Φ body Γ H with
  | .exc c Γ' H'=>execH T Φ hs c Γ' H'
  | r=>r
noncomputable def execSs(T:Tab)(Φ:Funs):MSs->Env'->Hp->ResS
 | .nil,Γ,H=>.next Γ H
 | .cons s ss,Γ,H=>Nj (Da T Φ s Γ H) (execSs T Φ ss)
noncomputable def execH(T:Tab)(Φ:Funs):MHs->Nat->Env'->Hp->ResS
 | .nil,c,Γ,H=>.exc c Γ H
 | .cons d i body hs,c,Γ,H =>
  if (T.isExc c && T.isExc d && calmSs (Fh T) body)=false then .bad else if T.sub c d=true then
   match execSs T Φ body (match i with | some i=>Γ.set i (some (.exc c)) | none=>Γ) H with
   | .ret v H'=>.ret v H'
   | _=>.bad
  else execH T Φ hs c Γ H
end
noncomputable def Abr:ResS->Res Val
 | .next _ H'=>.ok .none H'
 | .ret v H'=>.ok v H'
 | .exc c _ H'=>.exc c H'
 | .bad=>.bad
noncomputable def Agy(T:Tab)(Φ:Funs)(f:MFun)(args:List Val):M Val:=fun H =>
 if args.length=f.arity then Abr (execSs T Φ f.body (args.map some++List.replicate f.nvars none) H) else .bad
noncomputable def Af(T:Tab):Nat->Funs
 | 0,_,_=>.bad
 | d+1,k,args =>
  match T.funs[k]? with
  | none=>.bad
  | some f=>Agy T (Af T d) f args
theorem Rx{T:Tab}{d k:Nat}{args:List Val}:Af T (d+1) k args=(match T.funs[k]? with
 | none=>.bad
 | some f=>Agy T (Af T d) f args):=rfl
theorem Abs{T:Tab}{Φ:Funs}{Γ:Env'}(k):Aj T Φ (.glob k) Γ=(.ofOpt T.globs[k]?):=rfl
theorem Aev{T:Tab}{Φ:Funs}{Γ:Env'}(i):Aj T Φ (.var i) Γ=(.ofOpt (match Γ[i]? with | some (some v)=>some v | _=>none)):=rfl
theorem Aew{T:Tab}{Φ:Funs}{Γ:Env'}(a):Aj T Φ (.not a) Γ=((Aj T Φ a Γ).bnd fun x=>(C3 x).bnd fun b=>.ret (.bool (!b))):=rfl
theorem Aex{T:Tab}{Φ:Funs}{Γ:Env'}(a b):Aj T Φ (.and a b) Γ=((Aj T Φ a Γ).bnd fun x=>(C3 x).bnd fun t=>match t with
 | true=>Aj T Φ b Γ
 | false=>.ret (.bool false)):=rfl
theorem Ahk{T:Tab}{Φ:Funs}{Γ:Env'}(a b):Aj T Φ (.or a b) Γ=((Aj T Φ a Γ).bnd fun x=>(C3 x).bnd fun t=>match t with
 | true=>.ret (.bool true)
 | false=>Aj T Φ b Γ):=rfl
theorem Aey{T:Tab}{Φ:Funs}{Γ:Env'}(op a b):Aj T Φ (.cmp op a b) Γ=((Aj T Φ a Γ).bnd fun x=>(Aj T Φ b Γ).bnd fun y=>(M.look (D2 op x y)).bnd fun r=>.ret (.bool r)):=rfl
theorem Tm{T:Tab}{Φ:Funs}{Γ:Env'}(op1 op2 a b c):Aj T Φ (.cmp2 op1 op2 a b c) Γ=((Aj T Φ a Γ).bnd fun x=>(Aj T Φ b Γ).bnd fun y=>(M.look (D2 op1 x y)).bnd fun r=>match r with
 | true=>(Aj T Φ c Γ).bnd fun z=>(M.look (D2 op2 y z)).bnd fun r=>.ret (.bool r)
 | false=>.ret (.bool false)):=rfl
theorem Ly{T:Tab}{Φ:Funs}{Γ:Env'}(f es):Aj T Φ (.call f es) Γ=((evalEs T Φ es Γ).bnd fun vs=>Φ f vs):=rfl
theorem Qc{T:Tab}{Φ:Funs}{Γ:Env'}(c es):Aj T Φ (.new c es) Γ=(match T.meth c 0 with
 | some _=>(evalEs T Φ es Γ).bnd fun vs=>Ru T Φ c vs
 | none=>M.bad):=rfl
theorem Jf{T:Tab}{Φ:Funs}{Γ:Env'}(a m es):Aj T Φ (.umeth a m es) Γ=((Aj T Φ a Γ).bnd fun o=>(Cu T o m).bnd fun k=>(evalEs T Φ es Γ).bnd fun vs=>Φ k (o :: vs)):=rfl
theorem Xk{T:Tab}{Φ:Funs}{Γ:Env'}(f es):Aj T Φ (.bf f es) Γ=((evalEs T Φ es Γ).bnd fun vs=>bfV f vs):=rfl
theorem Xl{T:Tab}{Φ:Funs}{Γ:Env'}(a m es):Aj T Φ (.bm a m es) Γ=((Aj T Φ a Γ).bnd fun o=>(M.look (Fr m o)).bnd fun _=>(evalEs T Φ es Γ).bnd fun vs=>bmV m o vs):=rfl
theorem He{T:Tab}{Φ:Funs}{Γ:Env'}(a t):Aj T Φ (.isinst a t) Γ=((Aj T Φ a Γ).bnd fun x=>Ba T x t):=rfl
theorem Tn{T:Tab}{Φ:Funs}{Γ:Env'}{H:Hp}(i e):Da T Φ (.assign i e) Γ H=(Gm (Aj T Φ e Γ) Γ (fun v H=>.next (Γ.set i (some v)) H) H):=rfl
theorem Abt{T:Tab}{Φ:Funs}{Γ:Env'}{H:Hp}(c body):Da T Φ (.loop c body) Γ H=(I2 (fun Γ=>(Aj T Φ c Γ).bnd C3) (execSs T Φ body) Rv Γ H):=rfl
theorem Xm{T:Tab}{Φ:Funs}{Γ:Env'}{H:Hp}(c m):Da T Φ (.raise c m) Γ H=(if T.isExc c=true then .exc c Γ H else .bad):=rfl
theorem Xn{T:Tab}{Φ:Funs}{Γ:Env'}(e es):evalEs T Φ (.cons e es) Γ=((Aj T Φ e Γ).bnd fun v=>(evalEs T Φ es Γ).bnd fun vs=>.ret (v :: vs)):=rfl
end
end Mine.Internal
namespace Mine.Internal
open PySem
theorem Jw{v:Val}{i:Int}(h:Aeq v=some i):v=.int i:=by
 cases v with
 | int j=>exact congrArg _ (Option.some.inj h)
 | _=>exact Ad h
theorem To{v:Val}{p:Val × Val}(h:Ahj v=some p):v=.tup [p.1,p.2]:=by
 cases v with
 | tup vs =>
  cases vs with
  | nil=>exact Ad h
  | cons x vs =>
   cases vs with
   | nil=>exact Ad h
   | cons y vs =>
    cases vs with
    | nil=>exact Option.some.inj h▸rfl
    | cons _ _=>exact Ad h
 | _=>exact Ad h
theorem Abu{v:Val}{i:List Val}(h:Aj6 v=some i):v=.tup i:=by
 cases v with
 | tup j=>exact congrArg _ (Option.some.inj h)
 | _=>exact Ad h
theorem Aaf{a:Val}{k:Key}(h:Es a=some k):a=.tup [.int k.1,.int k.2]:=by
 refine ex1 (Option.bind_eq_some_iff.mp h) fun p zz=>Ac zz fun e h=>?_
 refine ex1 (Option.bind_eq_some_iff.mp h) fun x zz=>Ac zz fun e1 h=>?_
 refine ex1 (Option.map_eq_some_iff.mp h) fun y zz=>Ac zz fun e2 h=>?_
 have q:Val.tup [p.1,p.2]=.tup [.int x,.int y]:=Jw e1▸Jw e2▸rfl
 exact h▸(To e).trans q
theorem Tp{f:Val->Option PyData}{x:Val}{xs:List Val}{ds:List PyData}{C:List PyData->Prop}(h:Jd f (x :: xs)=some ds)(k:∀ d ds',f x=some d->Jd f xs=some ds'->C (d :: ds')):C ds:=by
 have h:(match f x,Jd f xs with
  | some d,some ds=>some (d :: ds)
  | _,_=>none)=some ds:=h
 cases e1:f x with
 | none=>rw [e1] at h;exact Ad h
 | some d =>
  cases e2:Jd f xs with
  | none=>rw [e1,e2] at h;exact Ad h
  | some ds'=>rw [e1,e2] at h;exact Option.some.inj h▸k d ds' e1 e2
theorem Xo{H:Hp}{a b:Val}{r:Bool}{C:Bool->Prop}(h:Hb H a b=some r)(k:∀ x y,A6 H Fi a=some x->A6 H Fi b=some y->C (PyData.eqv x y)):C r:=by
 delta Hb at h
 cases e1:A6 H Fi a with
 | none=>rw [e1] at h;exact Ad h
 | some d =>
  cases e2:A6 H Fi b with
  | none=>rw [e1,e2] at h;exact Ad h
  | some ds'=>rw [e1,e2] at h;exact Option.some.inj h▸k d ds' e1 e2
theorem Aez{H:Hp}{x:Val}{ys:List Val}{r:Bool}{C:Bool->Prop}(h:Ng H x ys=some r)(k:∀ d ds,A6 H Fi x=some d->Jd (A6 H Fi) ys=some ds->C (ds.any fun y=>PyData.eqv y d)):C r:=by
 delta Ng at h
 cases e1:A6 H Fi x with
 | none=>rw [e1] at h;exact Ad h
 | some d =>
  cases e2:Jd (A6 H Fi) ys with
  | none=>rw [e1,e2] at h;exact Ad h
  | some ds'=>rw [e1,e2] at h;exact Option.some.inj h▸k d ds' e1 e2
theorem Qd{e f:Val->Val->Option Bool}{x y:Val}{xs ys:List Val}{r:Bool}(h:lts e f (x :: xs) (y :: ys)=some r):(e x y=some true/\lts e f xs ys=some r)\/(e x y=some false/\f x y=some r):=by
 have h:(match e x y with
  | some true=>lts e f xs ys
  | some false=>f x y
  | none=>none)=some r:=h
 cases q:e x y with
 | none=>rw [q] at h;exact Ad h
 | some b =>
  rw [q] at h
  cases b with
  | true=>exact .inl ⟨rfl,h⟩
  | false=>exact .inr ⟨rfl,h⟩
theorem Ahl{n:Nat}{a b:Val}{r:Bool}{C:Val->Val->Bool->Prop}(h:Jr (n+1) a b=some r)(k1:∀ x y,C (.int x) (.int y) (decide (x < y)))(k2:∀ xs ys,lts (Hb []) (Jr n) xs ys=some r->C (.tup xs) (.tup ys) r):C a b r:=by
 cases a with
 | int x =>
  refine ex1 (Option.map_eq_some_iff.mp h) fun y zz=>Ac zz fun e h=>?_
  exact Jw e▸h▸k1 x y
 | tup xs =>
  refine ex1 (Option.bind_eq_some_iff.mp h) fun ys zz=>Ac zz fun e h=>?_
  exact Abu e▸k2 xs ys h
 | _=>exact Ad h
theorem Ahm{H:Hp}{a:Val}{l:Nat}{r:Bool}{C:Bool->Prop}(h:inV a (.loc l) H=some r)(k1:∀ ys,H[l]?=some (.list ys)->Ng H a ys=some r->C r)(k2:∀ es k,H[l]?=some (.dict es)->Es a=some k->C (Fj es k).isSome):C r:=by
 delta inV at h
 dsimp only at h
 cases q:H[l]? with
 | none=>rw [q] at h;exact Ad h
 | some o =>
  rw [q] at h
  cases o with
  | list ys=>exact k1 ys q h
  | dict es =>
   dsimp only at h
   cases q2:Es a with
   | none=>rw [q2] at h;exact Ad h
   | some k=>rw [q2] at h;exact Option.some.inj h▸k2 es k q q2
  | _=>exact Ad h
theorem Ae0{a b:Val}{p:Int->Int->Bool}{r:Bool}{C:Val->Val->Bool->Prop}(e:Agx p a b=some r)(k:∀ x y,C (.int x) (.int y) (p x y)):C a b r:=by
 refine ex1 (Option.bind_eq_some_iff.mp e) fun x zz=>Ac zz fun e1 e=>?_
 refine ex1 (Option.map_eq_some_iff.mp e) fun y zz=>Ac zz fun e2 e=>?_
 exact Jw e1▸Jw e2▸e▸k x y
theorem Jx{o:Option Bool}{r:Bool}(h:Aad true o=some r):∃ r',o=some r'/\r=!r':=by
 cases o with
 | none=>exact Ad h
 | some b=>exact ⟨b,rfl,(Option.some.inj h).symm⟩
theorem No{H:Hp}{l:Nat}{xs:List Val}(h:C1 (.loc l) H=some xs):H[l]?=some (.list xs):=by
 delta C1 at h
 dsimp only at h
 cases q:H[l]? with
 | none=>rw [q] at h;exact Ad h
 | some o =>
  rw [q] at h
  cases o with
  | list ys=>cases h;rfl
  | _=>exact Ad h
theorem Xp{H:Hp}{l:Nat}{xs:List Val}{src:Option Nat}(h:C0 (.loc l) H=some (xs,src)):H[l]?=some (.list xs)/\src=some l:=by
 delta C0 at h
 dsimp only at h
 cases q:H[l]? with
 | none=>rw [q] at h;exact Ad h
 | some o =>
  rw [q] at h
  cases o with
  | list ys =>
   have h:=Option.some.inj h
   exact ⟨congrArg (fun p=>some (HObj.list p.1)) h,(congrArg Prod.snd h).symm⟩
  | _=>exact Ad h
theorem Ae1{l:Nat}{H:Hp}{xs:List Val}{C:List Val->Prop}(h:Ej l H=some xs)(k1:∀ ys,H[l]?=some (.list ys)->C ys):C xs:=by
 delta Ej at h
 cases q:H[l]? with
 | none=>rw [q] at h;exact Ad h
 | some o =>
  rw [q] at h
  cases o with
  | list ys=>exact Option.some.inj h▸k1 ys q
  | _=>exact Ad h
theorem Tq{l:Nat}{xs:List Val}{H:Hp}(h:chk (some l) xs H=true):H[l]?=some (.list xs):=by
 delta chk at h
 dsimp only at h
 cases q:H[l]? with
 | none=>rw [q] at h;exact Al h
 | some o =>
  rw [q] at h
  cases o with
  | list ys=>exact congrArg (fun x=>some (HObj.list x)) (Xj _ _ h)
  | _=>exact Al h
theorem Ae2{H:Hp}{l:Nat}{xs:List Val}(h:H[l]?=some (.list xs)):chk (some l) xs H=true:=by
 delta chk;dsimp only;rw [h];exact Rs xs
theorem Ahn{H:Hp}{l:Nat}{k:Kd}{C:Kd->Prop}(h:Qa H (.loc l)=some k)(k1:∀ xs,H[l]?=some (.list xs)->C .list)(k2:∀ xs,H[l]?=some (.dict xs)->C .dict):C k:=by
 delta Qa at h
 dsimp only at h
 cases q:H[l]? with
 | none=>rw [q] at h;exact Ad h
 | some o =>
  rw [q] at h
  cases o with
  | list ys=>exact Option.some.inj h▸k1 ys q
  | dict ys=>exact Option.some.inj h▸k2 ys q
  | _=>exact Ad h
theorem Aho{H:Hp}{l:Nat}{xs:List Val}(h:H[l]?=some (.list xs)):Qa H (.loc l)=some .list:=by
 delta Qa;dsimp only;rw [h]
theorem Tr{H:Hp}{l:Nat}{xs:List Val}(h:H[l]?=some (.list xs)):Hd (.loc l) H=some (xs,l):=by
 delta Hd;dsimp only;rw [h]
theorem Jy{H:Hp}{l:Nat}{xs:List Val}(h:H[l]?=some (.list xs)):Ju (.loc l) H=some "list":=by
 delta Ju;dsimp only;rw [h]
theorem Ts{H:Hp}{l:Nat}{xs:List (Key × Val)}(h:H[l]?=some (.dict xs)):Ju (.loc l) H=some "dict":=by
 delta Ju;dsimp only;rw [h]
theorem Abv{H:Hp}{l:Nat}{k:String}{C:String->Prop}(h:Ju (.loc l) H=some k)(k1:∀ xs,H[l]?=some (.list xs)->C "list")(k2:∀ xs,H[l]?=some (.dict xs)->C "dict"):C k:=by
 delta Ju at h
 dsimp only at h
 cases q:H[l]? with
 | none=>rw [q] at h;exact Ad h
 | some o =>
  rw [q] at h
  cases o with
  | list ys=>exact Option.some.inj h▸k1 ys q
  | dict ys=>exact Option.some.inj h▸k2 ys q
  | _=>exact Ad h
theorem Xq{H:Hp}{l:Nat}{xs:List Val}(h:H[l]?=some (.list xs)):C1 (.loc l) H=some xs:=by
 delta C1;dsimp only;rw [h]
theorem Abw{H:Hp}{l:Nat}{xs:List Val}(h:H[l]?=some (.list xs)):C0 (.loc l) H=some (xs,some l):=by
 delta C0;dsimp only;rw [h]
noncomputable def Gq:List (Str × Value):=[("len",.builtin "len"),("range",.type "range"),("isinstance",.builtin "isinstance"),("list",.type "list"),("tuple",.type "tuple"),("int",.type "int"),("bool",.type "bool"),("str",.type "str"),
 ("zip",.type "zip"),("enumerate",.type "enumerate"),("sorted",.builtin "sorted"),("min",.builtin "min"),("max",.builtin "max"),("abs",.builtin "abs"),("set",.type "set")]
structure Names where
 funs:List (Str × Nat)
 clss:List (Str × Nat)
 globs:List (Str × Nat)
 attrs:List (Str × Nat)
 meths:List (Str × Nat)
noncomputable def Br(sc:Scope)(x:Str):Bool:=decide (sc.names.lookup x=some .globalImplicit) && !(x == ("__debug__":Str))
noncomputable def Xr(sc:Scope)(ns:List (Option Str))(i:Nat)(x:Str):Bool :=
 (decide (sc.names.lookup x=some .local) || (decide (sc.names.lookup x=some .cell) || decide (sc.names.lookup x=some .free))) && (decide (ns[i]?=some (some x)) && (!(x == ("__debug__":Str)) && !(x == ("__classdict__":Str))))
noncomputable def Fn(sc:Scope)(ns:List (Option Str))(i:Nat)(x:Str):Bool :=
 (decide (sc.names.lookup x=some .local) || decide (sc.names.lookup x=some .cell)) && decide (ns[i]?=some (some x))
noncomputable def Dy(l:List (Str × Nat))(x:Str)(k:Nat):Bool:=decide (l.lookup x=some k)
noncomputable def bOp:BOp->Operator
 | .add=>.Add
 | .sub=>.Sub
 | .mul=>.Mult
 | .fdiv=>.FloorDiv
 | .mod=>.Mod
noncomputable def Agz(b:BOp)(o:Operator):Bool:=decide (bOp b=o)
noncomputable def Jb:COp->CmpOp
 | .eq=>.Eq
 | .ne=>.NotEq
 | .lt=>.Lt
 | .le=>.LtE
 | .gt=>.Gt
 | .is=>.Is
 | .isNot=>.IsNot
 | .isin=>.In
 | .notin=>.NotIn
noncomputable def Cp:Expr->Bool
 | .Call (.Name x _) _ _ _=>!(x == ("super":Str))
 | _=>true
noncomputable def Ec:Expr->Bool
 | .Set ..=>false
 | _=>true
noncomputable def Gr:BF->Str × Nat
 | .len=>("len",1)
 | .range=>("range",1)
 | .list=>("list",1)
 | .sorted=>("sorted",1)
 | .min2=>("min",2)
 | .max2=>("max",2)
noncomputable def Hf:BM->Str × Nat
 | .append=>("append",1)
 | .pop=>("pop",0)
 | .dpop=>("pop",1)
 | .clear=>("clear",0)
 | .rstrip=>("rstrip",0)
noncomputable def Np:Ty->Str
 | .int=>"int"
 | .bool=>"bool"
 | .str=>"str"
 | .tuple=>"tuple"
 | .list=>"list"
 | .cls _=>""
noncomputable def Dz(csc:Scope)(ns:List (Option Str)):List (Option Str):=ns.map fun o=>o.bind fun y=>if csc.names.lookup y=some .free then some y else none
noncomputable def Jz(sc csc:Scope)(x:Str):Bool :=
 decide (csc.kind=.function) && ((decide (csc.names.lookup x=some .local) || decide (csc.names.lookup x=some .cell)) &&
 csc.names.all fun p=>decide (csc.names.lookup p.1=some p.2) && (!decide (p.2=.free) || (decide (sc.names.lookup p.1=some .cell) || decide (sc.names.lookup p.1=some .free))))
noncomputable def Nq(e:Expr):Option { p:Const × Nat × Pos // e=.Constant p.1 p.2.1 p.2.2 }:=match e with
 | .Constant c k pos=>some ⟨(c,k,pos),rfl⟩
 | _=>none
noncomputable def Lz(e:Expr):Option { p:Str × Pos // e=.Name p.1 p.2 }:=match e with
 | .Name x pos=>some ⟨(x,pos),rfl⟩
 | _=>none
noncomputable def Ath(e:Expr):Option { p:Expr × Operator × Expr × Pos // e=.BinOp p.1 p.2.1 p.2.2.1 p.2.2.2 }:=match e with
 | .BinOp l o r pos=>some ⟨(l,o,r,pos),rfl⟩
 | _=>none
noncomputable def dUn(e:Expr):Option { p:UnaryOp × Expr × Pos // e=.UnaryOp p.1 p.2.1 p.2.2 }:=match e with
 | .UnaryOp o x pos=>some ⟨(o,x,pos),rfl⟩
 | _=>none
noncomputable def Ae3(e:Expr):Option { p:BoolOp × List Expr × Pos // e=.BoolOp p.1 p.2.1 p.2.2 }:=match e with
 | .BoolOp o xs pos=>some ⟨(o,xs,pos),rfl⟩
 | _=>none
noncomputable def Aj7(e:Expr):Option { p:Expr × List CmpOp × List Expr × Pos // e=.Compare p.1 p.2.1 p.2.2.1 p.2.2.2 }:=match e with
 | .Compare l os rs pos=>some ⟨(l,os,rs,pos),rfl⟩
 | _=>none
noncomputable def Aj8(e:Expr):Option { p:Expr × Expr × Pos // e=.Subscript p.1 p.2.1 p.2.2 }:=match e with
 | .Subscript v s pos=>some ⟨(v,s,pos),rfl⟩
 | _=>none
noncomputable def Aj9(e:Expr):Option { p:List Expr × Nat × Pos // e=.Tuple p.1 p.2.1 p.2.2 }:=match e with
 | .Tuple xs k pos=>some ⟨(xs,k,pos),rfl⟩
 | _=>none
noncomputable def Ahp(e:Expr):Option { p:List Expr × Pos // e=.List p.1 p.2 }:=match e with
 | .List xs pos=>some ⟨(xs,pos),rfl⟩
 | _=>none
noncomputable def Ahq(e:Expr):Option { p:List (Option Expr) × List Expr × Pos // e=.Dict p.1 p.2.1 p.2.2 }:=match e with
 | .Dict ks vs pos=>some ⟨(ks,vs,pos),rfl⟩
 | _=>none
noncomputable def Abx(e:Expr):Option { p:Expr × Str × Pos // e=.Attribute p.1 p.2.1 p.2.2 }:=match e with
 | .Attribute v y pos=>some ⟨(v,y,pos),rfl⟩
 | _=>none
noncomputable def Ae4(e:Expr):Option { p:Expr × List Expr × List Keyword × Pos // e=.Call p.1 p.2.1 p.2.2.1 p.2.2.2 }:=match e with
 | .Call f xs ks pos=>some ⟨(f,xs,ks,pos),rfl⟩
 | _=>none
noncomputable def Ahr(e:Expr):Option { p:Expr × List Comprehension × Scope × Pos // e=.ListComp p.1 p.2.1 p.2.2.1 p.2.2.2 }:=match e with
 | .ListComp el gs csc pos=>some ⟨(el,gs,csc,pos),rfl⟩
 | _=>none
noncomputable def Ahs(c:Const):Option { _p:Unit // c=.none }:=match c with
 | .none=>some ⟨(),rfl⟩
 | _=>none
noncomputable def Aht(c:Const):Option { b:Bool // c=.bool b }:=match c with
 | .bool b=>some ⟨b,rfl⟩
 | _=>none
noncomputable def Ati(c:Const):Option { b:Int // c=.int b }:=match c with
 | .int b=>some ⟨b,rfl⟩
 | _=>none
noncomputable def Aka(c:Const):Option { b:Str // c=.str b }:=match c with
 | .str b=>some ⟨b,rfl⟩
 | _=>none
noncomputable def Ae5(o:UnaryOp):Option { _p:Unit // o=.USub }:=match o with
 | .USub=>some ⟨(),rfl⟩
 | _=>none
noncomputable def Aby(o:UnaryOp):Option { _p:Unit // o=.Not }:=match o with
 | .Not=>some ⟨(),rfl⟩
 | _=>none
noncomputable def Ahu(o:BoolOp):Option { _p:Unit // o=.And }:=match o with
 | .And=>some ⟨(),rfl⟩
 | _=>none
noncomputable def Atj(o:BoolOp):Option { _p:Unit // o=.Or }:=match o with
 | .Or=>some ⟨(),rfl⟩
 | _=>none
noncomputable def one{α:Type}(xs:List α):Option { x:α // xs=[x] }:=match xs with
 | [x]=>some ⟨x,rfl⟩
 | _=>none
noncomputable def two{α:Type}(xs:List α):Option { p:α × α // xs=[p.1,p.2] }:=match xs with
 | [x,y]=>some ⟨(x,y),rfl⟩
 | _=>none
noncomputable def more(xs:List Expr):Option { p:Expr × Expr × List Expr // xs=p.1 :: p.2.1 :: p.2.2 }:=match xs with
 | x :: y :: r=>some ⟨(x,y,r),rfl⟩
 | _=>none
noncomputable def Aes{α:Type}(xs:List α):Option { _p:Unit // xs=[] }:=match xs with
 | []=>some ⟨(),rfl⟩
 | _ :: _=>none
noncomputable def Ahv{α:Type}(o:Option α):Option { _p:Unit // o=none }:=match o with
 | none=>some ⟨(),rfl⟩
 | some _=>none
noncomputable def Kw(e:Expr):Option { p:Str × Pos × List Expr × Pos // e=.Call (.Name p.1 p.2.1) p.2.2.1 [] p.2.2.2 }:=match Ae4 e with
 | some ⟨(f,xs,ks,pos),h⟩=>(match Aes ks,Lz f with
  | some ⟨_,hk⟩,some ⟨(x,np),hn⟩=>some ⟨(x,np,xs,pos),h.trans (by dsimp only at hk hn ⊢;rw [hk,hn])⟩
  | _,_=>none)
 | none=>none
noncomputable def Aag(e:Expr):Option { p:Expr × Str × Pos × List Expr × Pos // e=.Call (.Attribute p.1 p.2.1 p.2.2.1) p.2.2.2.1 [] p.2.2.2.2/\(p.2.2.1.endLine == p.2.2.2.2.line)=true }:=match Ae4 e with
 | some ⟨(f,xs,ks,pos),h⟩=>(match Aes ks,Abx f with
  | some ⟨_,hk⟩,some ⟨(o,y,apos),hn⟩=>if hl:(apos.endLine == pos.line)=true then some ⟨(o,y,apos,xs,pos),h.trans (by dsimp only at hk hn ⊢;rw [hk,hn]),hl⟩ else none
  | _,_=>none)
 | none=>none
noncomputable def Atk(gs:List Comprehension):Option { p:Str × Pos × Expr × List Expr // gs=[⟨.Name p.1 p.2.1,p.2.2.1,p.2.2.2,0⟩] }:=match one gs with
 | some ⟨⟨t,i,ifs,as⟩,h⟩=>(match Lz t with
  | some ⟨(x,px),hn⟩=>if ha:as=0 then some ⟨(x,px,i,ifs),h.trans (by dsimp only at hn ⊢;rw [hn,ha])⟩ else none
  | none=>none)
 | none=>none
noncomputable def Akb(N:Names)(y:Str):Ty->Bool
 | .cls c=>Dy N.clss y c
 | t=>decide (Np t=y)
noncomputable def Bi{α:Type}(o:Option α)(f:α->Bool):Bool:=match o with
 | some a=>f a
 | none=>false
theorem Aa{α:Type}{o:Option α}{f:α->Bool}(h:Bi o f=true):∃ a,f a=true:=by
 cases o with
 | none=>exact Al h
 | some a=>exact ⟨a,h⟩
theorem Abz{P:Prop}{o:Option { _p:Unit // P }}(h:o.isSome=true):P:=by
 cases o with
 | none=>exact Al h
 | some a=>exact a.2
theorem an1{a b:Bool}(h:(a && b)=true):a=true:=by
 cases a with
 | true=>rfl
 | false=>exact Al h
theorem an2{a b:Bool}(h:(a && b)=true):b=true:=by
 cases a with
 | true=>exact h
 | false=>exact Al h
theorem Tt{p q:Prop}[Decidable p][Decidable q](h:(decide p || decide q)=true):p\/q:=((Bool.or_eq_true _ _).mp h).imp of_decide_eq_true of_decide_eq_true
theorem not_not{b:Bool}(h:(!b)=true):b=false:=(Bool.not_eq_true' b).mp h
mutual
noncomputable def ck(N:Names)(sc:Scope)(ns:List (Option Str))(m:ME)(e:Expr):Bool :=
 match m with
 | .none=>(Bi (Nq e) fun p1=>(Ahs p1.1.1).isSome)
 | .bool b=>(Bi (Nq e) fun p1=>(Bi (Aht p1.1.1) fun p2=>b == p2.1))
 | .int i=>(Bi (Nq e) fun p1=>(Bi (Ati p1.1.1) fun p2=>decide (i=p2.1)))
 | .str s=>(Bi (Nq e) fun p1=>(Bi (Aka p1.1.1) fun p2=>decide (s=p2.1) && decide (s.length<=1000)))
 | .glob k=>(Bi (Lz e) fun p1=>Br sc p1.1.1 && Dy N.globs p1.1.1 k)
 | .var i=>(Bi (Lz e) fun p1=>Xr sc ns i p1.1.1)
 | .bin op a b=>(Bi (Ath e) fun p1=>Agz op p1.1.2.1 && ck N sc ns a p1.1.1 && ck N sc ns b p1.1.2.2.1)
 | .neg a=>(Bi (dUn e) fun p1=>(Ae5 p1.1.1).isSome && ck N sc ns a p1.1.2.1)
 | .not a=>(Bi (dUn e) fun p1=>(Aby p1.1.1).isSome && ck N sc ns a p1.1.2.1)
 | .and a b=>(Bi (Ae3 e) fun p1=>(Ahu p1.1.1).isSome && (Bi (more p1.1.2.1) fun p2=>ck N sc ns a p2.1.1 && (match p2.1.2.2 with
  | []=>ck N sc ns b p2.1.2.1
  | _ :: _=>ck N sc ns b (.BoolOp .And (p2.1.2.1 :: p2.1.2.2) p1.1.2.2))))
 | .or a b=>(Bi (Ae3 e) fun p1=>(Atj p1.1.1).isSome && (Bi (more p1.1.2.1) fun p2=>ck N sc ns a p2.1.1 && (match p2.1.2.2 with
  | []=>ck N sc ns b p2.1.2.1
  | _ :: _=>ck N sc ns b (.BoolOp .Or (p2.1.2.1 :: p2.1.2.2) p1.1.2.2))))
 | .cmp op a b=>(Bi (Aj7 e) fun p1=>decide (p1.1.2.1=[Jb op]) && (Bi (one p1.1.2.2.1) fun p2=>ck N sc ns a p1.1.1 && ck N sc ns b p2.1 && Ec p2.1))
 | .cmp2 op1 op2 a b c=>(Bi (Aj7 e) fun p1=>decide (p1.1.2.1=[Jb op1,Jb op2]) && (Bi (two p1.1.2.2.1) fun p2=>ck N sc ns a p1.1.1 && ck N sc ns b p2.1.1 && ck N sc ns c p2.1.2 && Ec p2.1.2))
 | .sub a i=>(Bi (Aj8 e) fun p1=>ck N sc ns a p1.1.1 && ck N sc ns i p1.1.2.1)
 | .tup es=>(Bi (Aj9 e) fun p1=>ckEs N sc ns es p1.1.1 && decide (p1.1.1.length<=1000))
 | .list es=>(Bi (Ahp e) fun p1=>ckEs N sc ns es p1.1.1 && decide (p1.1.1.length<=1000))
 | .dict=>(Bi (Ahq e) fun p1=>p1.1.1.isEmpty && p1.1.2.1.isEmpty)
 | .attr a n=>(Bi (Abx e) fun p1=>ck N sc ns a p1.1.1 && Dy N.attrs p1.1.2.1 n && Cp p1.1.1)
 | .call f es=>(Bi (Kw e) fun p1=>Br sc p1.1.1 && Dy N.funs p1.1.1 f && ckEs N sc ns es p1.1.2.2.1 && decide (p1.1.2.2.1.length<=20))
 | .new c es=>(Bi (Kw e) fun p1=>Br sc p1.1.1 && Dy N.clss p1.1.1 c && ckEs N sc ns es p1.1.2.2.1 && decide (p1.1.2.2.1.length<=20))
 | .umeth a m es=>(Bi (Aag e) fun p1=>ck N sc ns a p1.1.1 && Dy N.meths p1.1.2.1 m && ckEs N sc ns es p1.1.2.2.2.1 && decide (p1.1.2.2.2.1.length<=20) && Cp p1.1.1)
 | .bf f es=>(Bi (Kw e) fun p1=>Br sc p1.1.1 && decide ((Gr f).1=p1.1.1) && decide ((Gr f).2=p1.1.2.2.1.length) && ckEs N sc ns es p1.1.2.2.1)
 | .bm a m es=>(Bi (Aag e) fun p1=>ck N sc ns a p1.1.1 && decide ((Hf m).1=p1.1.2.1) && decide ((Hf m).2=p1.1.2.2.2.1.length) && ckEs N sc ns es p1.1.2.2.2.1 && Cp p1.1.1)
 | .isinst a t=>(Bi (Kw e) fun p1=>(Bi (two p1.1.2.2.1) fun p2=>(Bi (Lz p2.1.2) fun p3=>Br sc p1.1.1 && decide (p1.1.1=("isinstance":Str)) && Br sc p3.1.1 && ck N sc ns a p2.1.1 && Akb N p3.1.1 t)))
 | .comp elt it cond=>(Bi (Ahr e) fun p1=>(Bi (Atk p1.1.2.1) fun p2=>ck N sc ns it p2.1.2.2.1 && Ec p2.1.2.2.1 && Jz sc p1.1.2.2.1 p2.1.1 && ck N p1.1.2.2.1 (Dz p1.1.2.2.1 ns++[some p2.1.1]) elt p1.1.1 && ckC N p1.1.2.2.1 (Dz p1.1.2.2.1 ns++[some p2.1.1]) cond p2.1.2.2.2))
noncomputable def ckO(N:Names)(sc:Scope)(ns:List (Option Str)):MEo->Option Expr->Bool
 | .none,none=>true
 | .some e,some x=>ck N sc ns e x
 | _,_=>false
noncomputable def ckC(N:Names)(sc:Scope)(ns:List (Option Str)):MEo->List Expr->Bool
 | .none,[]=>true
 | .some e,[x]=>ck N sc ns e x
 | _,_=>false
noncomputable def ckEs(N:Names)(sc:Scope)(ns:List (Option Str)):MEs->List Expr->Bool
 | .nil,[]=>true
 | .cons e es,x :: xs=>ck N sc ns e x && ckEs N sc ns es xs
 | _,_=>false
end
noncomputable def Ae6(st:Stmt):Option { p:Expr × Pos // st=.Expr p.1 p.2 }:=match st with
 | .Expr x pos=>some ⟨(x,pos),rfl⟩
 | _=>none
noncomputable def Ahw(st:Stmt):Option { p:Expr × Expr × Pos // st=.Assign [p.1] p.2.1 p.2.2 }:=match st with
 | .Assign ts x pos=>(match one ts with
  | some ⟨t,h⟩=>some ⟨(t,x,pos),by dsimp only;rw [h]⟩
  | none=>none)
 | _=>none
noncomputable def Ae7(st:Stmt):Option { p:Str × Pos × Expr × Pos // st=.Assign [.Name p.1 p.2.1] p.2.2.1 p.2.2.2 }:=match Ahw st with
 | some ⟨(t,x,pos),h⟩=>(match Lz t with
  | some ⟨(y,py),hn⟩=>some ⟨(y,py,x,pos),h.trans (by dsimp only at hn ⊢;rw [hn])⟩
  | none=>none)
 | none=>none
noncomputable def Ae8(st:Stmt):Option { p:Expr × Str × Pos × Expr × Pos // st=.Assign [.Attribute p.1 p.2.1 p.2.2.1] p.2.2.2.1 p.2.2.2.2 }:=match Ahw st with
 | some ⟨(t,x,pos),h⟩=>(match Abx t with
  | some ⟨(o,y,py),hn⟩=>some ⟨(o,y,py,x,pos),h.trans (by dsimp only at hn ⊢;rw [hn])⟩
  | none=>none)
 | none=>none
noncomputable def Ae9(st:Stmt):Option { p:Expr × Expr × Pos × Expr × Pos // st=.Assign [.Subscript p.1 p.2.1 p.2.2.1] p.2.2.2.1 p.2.2.2.2 }:=match Ahw st with
 | some ⟨(t,x,pos),h⟩=>(match Aj8 t with
  | some ⟨(o,y,py),hn⟩=>some ⟨(o,y,py,x,pos),h.trans (by dsimp only at hn ⊢;rw [hn])⟩
  | none=>none)
 | none=>none
noncomputable def Ahx(st:Stmt):Option { p:Option Expr × Pos // st=.Return p.1 p.2 }:=match st with
 | .Return x pos=>some ⟨(x,pos),rfl⟩
 | _=>none
noncomputable def Atl(st:Stmt):Option { p:Expr × List Stmt × List Stmt × Pos // st=.If p.1 p.2.1 p.2.2.1 p.2.2.2 }:=match st with
 | .If x ts fs pos=>some ⟨(x,ts,fs,pos),rfl⟩
 | _=>none
noncomputable def Ab0(st:Stmt):Option { p:Expr × List Stmt × Pos // st=.While p.1 p.2.1 [] p.2.2 }:=match st with
 | .While x ts fs pos=>(match Aes fs with
  | some ⟨_,h⟩=>some ⟨(x,ts,pos),by dsimp only;rw [h]⟩
  | none=>none)
 | _=>none
noncomputable def Akc(st:Stmt):Option { p:Expr × Expr × List Stmt × Pos // st=.For p.1 p.2.1 p.2.2.1 [] p.2.2.2 }:=match st with
 | .For t x ts fs pos=>(match Aes fs with
  | some ⟨_,h⟩=>some ⟨(t,x,ts,pos),by dsimp only;rw [h]⟩
  | none=>none)
 | _=>none
noncomputable def Afa(st:Stmt):Option { p:Str × Pos × Expr × List Stmt × Pos // st=.For (.Name p.1 p.2.1) p.2.2.1 p.2.2.2.1 [] p.2.2.2.2 }:=match Akc st with
 | some ⟨(t,x,ts,pos),h⟩=>(match Lz t with
  | some ⟨(y,py),hn⟩=>some ⟨(y,py,x,ts,pos),h.trans (by dsimp only at hn ⊢;rw [hn])⟩
  | none=>none)
 | none=>none
noncomputable def Ahy(t:Expr):Option { p:Str × Pos × Str × Pos × Nat × Pos // t=.Tuple [.Name p.1 p.2.1,.Name p.2.2.1 p.2.2.2.1] p.2.2.2.2.1 p.2.2.2.2.2 }:=match Aj9 t with
 | some ⟨(xs,k,pt),h⟩=>(match two xs with
  | some ⟨(a,b),h2⟩=>(match Lz a,Lz b with
   | some ⟨(y,py),h3⟩,some ⟨(z,pz),h4⟩=>some ⟨(y,py,z,pz,k,pt),h.trans (by dsimp only at h2 h3 h4 ⊢;rw [h2,h3,h4])⟩
   | _,_=>none)
  | none=>none)
 | none=>none
noncomputable def Afb(st:Stmt):Option { p:(Str × Pos × Str × Pos × Nat × Pos) × Expr × List Stmt × Pos // st=.For (.Tuple [.Name p.1.1 p.1.2.1,.Name p.1.2.2.1 p.1.2.2.2.1] p.1.2.2.2.2.1 p.1.2.2.2.2.2) p.2.1 p.2.2.1 [] p.2.2.2 }:=match Akc st with
 | some ⟨(t,x,ts,pos),h⟩=>(match Ahy t with
  | some ⟨q,hn⟩=>some ⟨(q,x,ts,pos),h.trans (by dsimp only;rw [hn])⟩
  | none=>none)
 | none=>none
noncomputable def Ab1(e:Expr):Option { p:Str × Pos × Expr × Pos // e=.Call (.Name p.1 p.2.1) [p.2.2.1] [] p.2.2.2 }:=match Kw e with
 | some ⟨(f,fp,xs,cp),h⟩=>(match one xs with
  | some ⟨x,h2⟩=>some ⟨(f,fp,x,cp),h.trans (by dsimp only;rw [h2])⟩
  | none=>none)
 | none=>none
noncomputable def Ab2(e:Expr):Option { p:Str × Pos × Expr × Expr × Pos // e=.Call (.Name p.1 p.2.1) [p.2.2.1,p.2.2.2.1] [] p.2.2.2.2 }:=match Kw e with
 | some ⟨(f,fp,xs,cp),h⟩=>(match two xs with
  | some ⟨(x,y),h2⟩=>some ⟨(f,fp,x,y,cp),h.trans (by dsimp only at h2 ⊢;rw [h2])⟩
  | none=>none)
 | none=>none
noncomputable def Ab3(st:Stmt):Option { p:Str × Pos × Str × Nat × Pos × Pos × Pos // st=.Raise (some (.Call (.Name p.1 p.2.1) [.Constant (.str p.2.2.1) p.2.2.2.1 p.2.2.2.2.1] [] p.2.2.2.2.2.1)) none p.2.2.2.2.2.2 }:=match st with
 | .Raise (some e) o pos=>(match Ahv o,Ab1 e with
  | some ⟨_,h1⟩,some ⟨(f,fp,x,cp),h2⟩=>(match Nq x with
   | some ⟨(c,k,mp),h3⟩=>(match Aka c with
    | some ⟨m,h4⟩=>some ⟨(f,fp,m,k,mp,cp,pos),by dsimp only at h2 h3 ⊢;rw [h1,h2,h3,h4]⟩
    | none=>none)
   | none=>none)
  | _,_=>none)
 | _=>none
noncomputable def Ahz(st:Stmt):Option { p:List Stmt × ExceptHandler × List ExceptHandler × Pos // st=.Try p.1 (p.2.1 :: p.2.2.1) [] [] p.2.2.2 }:=match st with
 | .Try ts hs a b pos=>(match hs,Aes a,Aes b with
  | h :: hx,some ⟨_,h1⟩,some ⟨_,h2⟩=>some ⟨(ts,h,hx,pos),by dsimp only;rw [h1,h2]⟩
  | _,_,_=>none)
 | _=>none
noncomputable def Tu:ME->Bool
 | .comp ..=>false
 | _=>true
noncomputable def Tv(hd:ExceptHandler):Option { p:Str × Pos × Option Str × Stmt × List Stmt × Pos // hd=.ExceptHandler (some (.Name p.1 p.2.1)) p.2.2.1 (p.2.2.2.1 :: p.2.2.2.2.1) p.2.2.2.2.2 }:=match hd with
 | .ExceptHandler (some (.Name x xp)) y (t :: ts) pos=>some ⟨(x,xp,y,t,ts,pos),rfl⟩
 | _=>none
noncomputable def Aah(sc:Scope)(ns:List (Option Str))(i:Option Nat)(y:Option Str):Bool:=match i with
 | none=>y.isNone
 | some i=>(match y with
  | some y=>Fn sc ns i y && decide (sc.names.lookup y=some .local)
  | none=>false)
mutual
noncomputable def ckS(N:Names)(sc:Scope)(ns:List (Option Str))(m:MS)(st:Stmt):Bool :=
 match m with
 | .expr e=>(Bi (Ae6 st) fun p1=>ck N sc ns e p1.1.1 && Tu e)
 | .assign i e=>(Bi (Ae7 st) fun p1=>Fn sc ns i p1.1.1 && ck N sc ns e p1.1.2.2.1)
 | .setattr o n e=>(Bi (Ae8 st) fun p1=>ck N sc ns e p1.1.2.2.2.1 && ck N sc ns o p1.1.1 && Dy N.attrs p1.1.2.1 n)
 | .setitem o i e=>(Bi (Ae9 st) fun p1=>ck N sc ns e p1.1.2.2.2.1 && ck N sc ns o p1.1.1 && ck N sc ns i p1.1.2.1)
 | .ret e=>(Bi (Ahx st) fun p1=>ckO N sc ns e p1.1.1)
 | .ite c t f=>(Bi (Atl st) fun p1=>ck N sc ns c p1.1.1 && ckSs N sc ns t p1.1.2.1 && ckSs N sc ns f p1.1.2.2.1)
 | .loop c b=>(Bi (Ab0 st) fun p1=>ck N sc ns c p1.1.1 && ckSs N sc ns b p1.1.2.1)
 | .each i it b=>(Bi (Afa st) fun p1=>Fn sc ns i p1.1.1 && ck N sc ns it p1.1.2.2.1 && Ec p1.1.2.2.1 && ckSs N sc ns b p1.1.2.2.2.1)
 | .eachZip i j a b body=>(Bi (Afb st) fun p1=>Fn sc ns i p1.1.1.1 && Fn sc ns j p1.1.1.2.2.1 && ckSs N sc ns body p1.1.2.2.1 && (Bi (Ab2 p1.1.2.1) fun p2=>Br sc p2.1.1 && decide (p2.1.1=("zip":Str)) && ck N sc ns a p2.1.2.2.1 && ck N sc ns b p2.1.2.2.2.1))
 | .raise c msg=>(Bi (Ab3 st) fun p1=>Br sc p1.1.1 && Dy N.clss p1.1.1 c && decide (p1.1.2.2.1=msg) && ckEs N sc ns (.cons (.str msg) .nil) [.Constant (.str p1.1.2.2.1) p1.1.2.2.2.1 p1.1.2.2.2.2.1])
 | .tryx b hs=>(Bi (Ahz st) fun p1=>ckSs N sc ns b p1.1.1 && ckHs N sc ns hs (p1.1.2.1 :: p1.1.2.2.1))
noncomputable def ckSs(N:Names)(sc:Scope)(ns:List (Option Str)):MSs->List Stmt->Bool
 | .nil,[]=>true
 | .cons s ss,x :: xs=>ckS N sc ns s x && ckSs N sc ns ss xs
 | _,_=>false
noncomputable def ckHs(N:Names)(sc:Scope)(ns:List (Option Str)):MHs->List ExceptHandler->Bool
 | .nil,[]=>true
 | .cons c i b hs,hd :: hx=>(Bi (Tv hd) fun p1=>Br sc p1.1.1 && Dy N.clss p1.1.1 c && ckSs N sc ns b (p1.1.2.2.2.1 :: p1.1.2.2.2.2.1) && Aah sc ns i p1.1.2.2.1) && ckHs N sc ns hs hx
 | _,_=>false
end
noncomputable def I3:List (Option Str)->Bool
 | []=>true
 | none :: r=>I3 r
 | some x :: r=>!(r.contains (some x)) && I3 r
noncomputable def ckF(N:Names)(f:MFun)(ns:List Str)(params:Arguments)(body:List Stmt)(sc:Scope):Bool :=
 decide (f.arity+f.nvars=ns.length) && (decide (ns.take f.arity=params.args.map (·.arg)) && (params.posonlyargs.isEmpty && (params.vararg.isNone && (params.kwonlyargs.isEmpty && (params.kwarg.isNone &&
 (I3 (ns.map some) && (!sc.isCoroutine && (!sc.isGenerator && (decide (sc.kind=.function) && (ckSs N sc (ns.map some) f.body body &&
 ((sc.names.all fun p=>decide (sc.names.lookup p.1=some p.2) && !decide (p.2=.free)) &&
 (ns.take f.arity).all fun y=>decide (sc.names.lookup y=some .local) || decide (sc.names.lookup y=some .cell))))))))))))
end Mine.Internal
namespace Mine.Internal
open PySem PySem.W.X PySem.W PySem.Spec PySem.Calls PyProof.Rows
noncomputable def Qe(K:Frag)(v:Value):Bool:=match v with
 | .ref a=>(clsIn K a).isSome && typeIn K (.ref a) == some (.type "type")
 | .type T=>decide (T="ValueError")
 | _=>false
structure Cx where
 prog:Program
 w:World
 T:Tab
 s₀:Shared
 cls:List Value
 attrs:List Str
 fns:List Addr
noncomputable def Cx.h₀(cx:Cx):Heap:=cx.s₀.heap
noncomputable def Bp(vs:List Value)(n:Nat):Obj:={ cls:=.type "list",dict:=none,data:=.seq vs.toArray n,slots:=#[] }
structure Room(A:Around)(d:Nat):Prop where
 hh:A.handled=none
 depth:A.depth+5 * d+150 < recursionLimit
 units:A.units+20 * d+100 < cLine
noncomputable def Ah0:List Value:=[.type "ValueError",.type "Exception",.type "BaseException",.type "object"]
noncomputable def Fs(a b:Value):Bool:=decide (a=b)
noncomputable def Afc:Value->Option Int
 | .int b _=>some b
 | _=>none
noncomputable def Ab4:Value->Option Str
 | .str b _=>some b
 | _=>none
noncomputable def Afd(v:Val)(w:Value):Bool:=match v with
 | .int a=>decide (Afc w=some a)
 | .str a=>decide (Ab4 w=some a) && decide (a.length<=1000)
 | _=>false
noncomputable def Ag0(v:Value):Option { a:Addr // v=.ref a }:=match v with
 | .ref a=>some ⟨a,rfl⟩
 | _=>none
noncomputable def dVS(v:Value):Option { p:Str × Tok // v=.str p.1 p.2 }:=match v with
 | .str a b=>some ⟨(a,b),rfl⟩
 | _=>none
noncomputable def Atm(d:Data):Option { p:Array Value // d=.fields p }:=match d with
 | .fields p=>some ⟨p,rfl⟩
 | _=>none
noncomputable def Akd(d:Data):Option { p:FuncData // d=.func p }:=match d with
 | .func p=>some ⟨p,rfl⟩
 | _=>none
noncomputable def Ah1(d:Data):Option { p:ClassData // d=.cls p }:=match d with
 | .cls p=>some ⟨p,rfl⟩
 | _=>none
noncomputable def Ah2(d:Data):Option { p:Array DictEntry × Nat // d=.dict p.1 p.2 }:=match d with
 | .dict p q=>some ⟨(p,q),rfl⟩
 | _=>none
noncomputable def Atn(d:FuncBody):Option { p:List Stmt // d=.stmts p }:=match d with
 | .stmts p=>some ⟨p,rfl⟩
 | _=>none
noncomputable def Aai(t:Addr->Option Obj)(c:Value)(q:Str):Bool :=
 Bi (Ag0 c) fun a=>Bi (t a.1) fun o=>Bi (Atm o.data) fun vs=>Bi (vs.1[1]?:Option Value) fun x=>Bi (dVS x) fun y=>decide (y.1.1=q)
noncomputable def Ah3(N:Names)(t:Addr->Option Obj)(a:Nat)(f:MFun)(ns:List Str):Bool :=
 Bi (t a) fun o=>Bi (Akd o.data) fun p=>Bi (Atn p.1.body) fun body=>ckF N f ns p.1.params body.1 p.1.scope && (p.1.closure.isEmpty && (Nat.beq p.1.globals mainGlobals && (Nat.beq p.1.builtins builtinsNs && (Fs p.1.defaults .none && (Fs p.1.kwdefaults .none && (Aai t p.1.code p.1.qualname && Fs o.cls (.type "function")))))))
noncomputable def Ab5(N:Names)(t:Addr->Option Obj):List Addr->List MFun->List (List Str)->Bool
 | [],[],[]=>true
 | a :: as,f :: fs,ns :: nss=>Ah3 N t a f ns && Ab5 N t as fs nss
 | _,_,_=>false
noncomputable def Ah4(es:Array DictEntry)(N:Names)(T:Tab)(cls:List Value)(fns:List Addr):Bool :=
 (N.funs.all fun p=>Bi fns[p.2]? fun a=>Bi (nsFind es p.1) fun v=>Fs (.ref a) v) &&
 ((N.globs.all fun p=>Bi T.globs[p.2]? fun m=>Bi (nsFind es p.1) fun v=>Afd m v) &&
 ((N.clss.all fun p=>Bi cls[p.2]? fun c=>(Bi (nsFind es p.1) fun v=>Fs c v) || ((nsFind es p.1).isNone && Bi (bootBuiltins p.1) fun v=>Fs c v && !decide (p.1=("__name__":Str)))) &&
 (Gq.all fun p=>(nsFind es p.1).isNone && (!decide (p.1=("__name__":Str)) && Bi (bootBuiltins p.1) fun v=>Fs p.2 v))))
noncomputable def Ah5(t:Addr->Option Obj)(a:Nat):Bool:=Bi (t a) fun o=>Fs o.cls (.type "function") && (Akd o.data).isSome
noncomputable def Qf(v:Value):Bool:=(dVS v).isSome
noncomputable def Ab6(o:Option Value):Bool:=Bi o fun v=>Fs v (.builtin "object.__new__")
noncomputable def Afe(y:Str):Bool:=Bi (fastLookup "object" y) fun r=>r.isNone
noncomputable def Tw(y:Str):Bool:=(fastLookup "object" y).isSome
noncomputable def Ah6(t:Addr->Option Obj)(N:Names)(T:Tab)(attrs:List Str)(fns:List Addr)(c:Nat)(es:Array DictEntry):Bool :=
 (es.toList.all fun e=>Qf e.key) && ((nsFind es "__getattribute__").isNone && ((nsFind es "__getattr__").isNone && ((nsFind es "__setattr__").isNone &&
 ((attrs.all fun y=>(nsFind es y).isNone && Afe y) &&
 (N.meths.all fun p=>(T.meth c p.2).isNone || Bi (T.meth c p.2) fun k=>Bi fns[k]? fun fa=>Bi (nsFind es p.1) fun v=>Fs (.ref fa) v && (Ah5 t fa && (!(attrs.contains p.1) && Tw p.1)))))))
noncomputable def Tx(l:List (Option Value)):Option { p:Option Value × Option Value × Option Value × Option Value × Option Value × Option Value // l=[p.1,p.2.1,p.2.2.1,p.2.2.2.1,p.2.2.2.2.1,p.2.2.2.2.2] }:=match l with
 | [a,b,c,d,e,f]=>some ⟨(a,b,c,d,e,f),rfl⟩
 | _=>none
noncomputable def Ab7(t:Addr->Option Obj)(N:Names)(T:Tab)(attrs:List Str)(fns:List Addr)(c:Nat)(v:Value):Bool :=
 Bi (Ag0 v) fun C=>Bi (t C.1) fun o=>Bi (Ah1 o.data) fun p=>Fs o.cls (.type "type") && (decide (p.1.mro=[.ref C.1,.type "object"]) && (p.1.hasDict && (!p.1.abstract && (!p.1.hasDel && ((Bi (Tx o.slots.toList) fun q=>Ab6 q.1.2.2.2.2.1) && Bi (t p.1.ns) fun on=>Bi (Ah2 on.data) fun es=>Ah6 t N T attrs fns c es.1.1)))))
noncomputable def Kx(t:Addr->Option Obj)(N:Names)(T:Tab)(attrs:List Str)(fns:List Addr):Nat->List Value->Bool
 | _,[]=>true
 | c,v :: vs=>((T.meth c 0).isNone || Ab7 t N T attrs fns c v) && Kx t N T attrs fns (c+1) vs
noncomputable def L5(N:Names)(attrs:List Str):Bool :=
 (N.attrs.all fun p=>Bi attrs[p.2]? fun y=>decide (y=p.1)) && (I3 (attrs.map some) && (decide (attrs.length<=1000) && Dy N.meths "__init__" 0))
noncomputable def Tz(t:Addr->Option Obj)(N:Names)(T:Tab)(cls:List Value)(fns:List Addr)(nss:List (List Str)):Bool :=
 (Bi (t mainGlobals) fun o=>Bi (Ah2 o.data) fun es=>Ah4 es.1.1 N T cls fns) && Ab5 N t fns T.funs nss
noncomputable def Has(h:Heap)(t:Addr->Option Obj):Prop:=∀ a o,t a=some o->h.get? a=some o
noncomputable def J0(t:Addr->Option Obj):List Addr->PySem.W.Frag
 | []=>[]
 | a :: as=>match t a with
  | some o=>(a,o) :: J0 t as
  | none=>J0 t as
noncomputable def T0(t:Addr->Option Obj)(v:Value):List Addr:=match v with
 | .ref a=>(match t a with
  | some o=>(match o.data with
   | .cls cd=>[a,cd.ns]
   | _=>[])
  | none=>[])
 | _=>[]
noncomputable def L7(t:Addr->Option Obj)(a:Addr):Bool:=Bi (t a) fun on=>Bi (Ah2 on.data) fun es=>(es.1.1.toList.all fun e=>Qf e.key) && (nsFind es.1.1 "__init__").isNone
noncomputable def Aff(t:Addr->Option Obj)(v:Value):Bool:=Bi (Ag0 v) fun a=>Bi (t a.1) fun o=>Bi (Ah1 o.data) fun p=>L7 t p.1.ns
noncomputable def T3(t:Addr->Option Obj):List Value->Bool
 | []=>false
 | v :: vs=>decide (v :: vs=Ah0) || (Aff t v && T3 t vs)
noncomputable def T4(T:Tab)(K:PySem.W.Frag)(C:Addr)(bm:List Value)(c:Nat):Nat->List Value->Bool
 | _,[]=>true
 | d,D :: Ds=>(Qe K D && decide (T.sub c d=(Value.ref C :: bm).contains D) && decide (PySem.W.mroIn K C D=some (T.sub c d))) && T4 T K C bm c (d+1) Ds
noncomputable def Ake(K:PySem.W.Frag)(D:Addr):Bool :=
 decide (PySem.W.findIn K (.ref D) "__getattribute__"=some (some (.builtin "BaseException.__getattribute__"))) && decide (PySem.W.findIn K (.ref D) "__getattr__"=some none) && decide (PySem.W.mroIn K D (.type "BaseException")=some true) &&
 PySem.W.hasDictIn K D && decide (PySem.W.findIn K (.ref D) "__class__"=some (some (.builtin "object.__class__"))) &&
 decide (PySem.W.specialIn K (.builtin "object.__class__") "__get__"=some (some (.builtin "getset_descriptor.__get__"))) && decide (PySem.W.takesIn K (.builtin "object.__class__")=some true) && decide (PySem.W.mroIn K D (.type "object")=some true)
noncomputable def Afg(o:Option Value):Bool:=Bi o fun v=>Fs v (.builtin "ValueError.__new__")
noncomputable def Ab8(t:Addr->Option Obj)(T:Tab)(cls:List Value)(c:Nat)(v:Value):Bool :=
 Bi (Ag0 v) fun C=>Bi (t C.1) fun o=>Bi (Ah1 o.data) fun p=>Fs o.cls (.type "type") && (decide (p.1.mro=.ref C.1 :: p.1.mro.tail) && (!p.1.hasDel && ((Bi (Tx o.slots.toList) fun q=>Afg q.1.2.2.2.2.1) && (L7 t p.1.ns && (T3 t p.1.mro.tail && (T4 T (J0 t ((cls++p.1.mro).flatMap (T0 t))) C.1 p.1.mro.tail c 0 cls && Ake (J0 t ((cls++p.1.mro).flatMap (T0 t))) C.1))))))
noncomputable def T5(t:Addr->Option Obj)(T:Tab)(cls:List Value):Nat->List Value->Bool
 | _,[]=>true
 | c,v :: vs=>(!T.isExc c || Ab8 t T cls c v) && T5 t T cls (c+1) vs
noncomputable def Qg(t:Addr->Option Obj)(T:Tab)(cls:List Value):Bool:=T5 t T cls 0 cls && decide (T.subs.length<=cls.length)
noncomputable def Ry(cx:Cx)(N:Names):Prop:=∀ (t:Addr->Option Obj) (nss:List (List Str)) (k d:Nat) {mg mb:Str->Option Value} {ns:List Int} {vs:List Value} {fa a:Addr} {Q:Value->Shared->Prop} {E:Value->Shared->Prop},
 Has cx.h₀ t->cx.h₀.Ns mainGlobals mg->cx.h₀.Ns builtinsNs mb->(∀ x:Str,x≠"__name__"->mb x=bootBuiltins x)->cx.h₀.NoLimit->Tz t N cx.T cx.cls cx.fns nss=true->Kx t N cx.T cx.attrs cx.fns 0 cx.cls=true->L5 N cx.attrs=true->Qg t cx.T cx.cls=true->(t sysModules).isSome=true ->
 cx.h₀.get? a=some (Bp vs 0)->PyProof.Rows.IntsAre vs ns->ns.length<=63->mg "law"=some (.ref fa)->N.funs.lookup ("law":Str)=some k->Room callerA d->(∃ H',Af cx.T d k [.script ns] []=.ok (.bool true) H') ->
 (∀ s',(∀ b o,cx.h₀.get? b=some o->s'.heap.get? b=some o)->s'.os=cx.s₀.os->s'.gens=cx.s₀.gens->Q (.bool true) s')->wpAny (model cx.prog cx.w) callerA (call (.ref fa) [.ref a]) Q E cx.s₀
theorem Ow:Nonempty (Cx × Names)->∃ p:Cx × Names,(∃ c:Cx × Names,¬Ry c.1 c.2)->¬Ry p.1 p.2:=fun ⟨x⟩=>by
 by_cases h:∃ c:Cx × Names,¬Ry c.1 c.2
 · obtain ⟨c,hc⟩:=h;exact ⟨c,fun _=>hc⟩
 · exact ⟨x,fun x=>absurd x h⟩
theorem inh:Nonempty (Cx × Names):=⟨(⟨PySem.Challenge.pw_uf020016_06,⟨fun _ _=>0,{ strHash:=fun _=>0,shareClass:=fun _=>0,mergeTok:=id,idOf:=fun _=>0,idOfShared:=fun _ _=>0,followText:=fun _=>false,idOfImm:=fun _=>0 }⟩,⟨[],[],[],[]⟩,{},[],[],[]⟩,⟨[],[],[],[],[]⟩)⟩
noncomputable def cx:Cx:=(Ow inh).choose.1
noncomputable def N:Names:=(Ow inh).choose.2
theorem fin_all(h:Ry cx N)(c:Cx)(n:Names):Ry c n:=Classical.byContradiction fun k=>(Ow inh).choose_spec ⟨(c,n),k⟩ h
end Mine.Internal
set_option maxRecDepth 100000
namespace Mine.Internal
open PySem PySem.W PySem.Spec PySem.Calls PyProof.Rows
structure ExcK(K:Frag)(D:Addr):Prop where
 ga:findIn K (.ref D) "__getattribute__"=some (some (.builtin "BaseException.__getattribute__"))
 gt:findIn K (.ref D) "__getattr__"=some none
 mb:mroIn K D (.type "BaseException")=some true
 hd:hasDictIn K D=true
 fc:findIn K (.ref D) "__class__"=some (some (.builtin "object.__class__"))
 sg:specialIn K (.builtin "object.__class__") "__get__"=some (some (.builtin "getset_descriptor.__get__"))
 tk:takesIn K (.builtin "object.__class__")=some true
 mo:mroIn K D (.type "object")=some true
section
variable{prog:Program}{w:World}{A:Around}{E:Value->Shared->Prop}{s:Shared}{K:Frag}{x D:Addr}{ox:Obj}
theorem Aaj:Slot "ValueError" "__getattribute__" "BaseException.__getattribute__":=F.excAttr_ValueError.ga
theorem exc_check{M:Model}{nameV:Value}{Q:Unit->Shared->Prop}(k:ExcK K D)(X:K.In s.heap)(I:InstAt s.heap x ox D none)(h:Q () s) :
 wpAny M A (checkBuiltinCall "BaseException.__getattribute__" ⟨[.ref x,nameV],[]⟩) Q E s:=by
 obtain ⟨hh,g,d,t,os⟩:=s
 have hk:builtinKind "BaseException.__getattribute__"=some .slot:=by decide +kernel
 have hsplit:splitId "BaseException.__getattribute__"=some ("BaseException","__getattribute__"):=by decide +kernel
 have ha:=F.args_bexc_ga (.ref x) nameV
 have LI:Looks M hh (isInstance (.ref x) (.type "BaseException")) true:=(I.type (M:=M)).andThen (looks_mroIn (M:=M) X k.mb)
 simp only [checkBuiltinCall,hk,hsplit]
 refine zB (LI.at ?_)
 repeat (first | exact h | wp_step)
theorem T6{tk:Tok}{Q:Fin->Shared->Prop}(k:ExcK K D)(X:K.In s.heap)(I:InstAt s.heap x ox D none)(h:Q (.done (.ret (.ref D))) s) :
 wpAny (model prog w) A (Builtin.«object.__getattribute__» ⟨[.ref x,.str "__class__" tk],[]⟩) Q E s:=by
 have hc:(clsIn K D).isSome=true:=by refine ex1 (any_some k.hd) fun cd zz=>Ac zz fun hc _=>?_;rw [hc];rfl
 have hf:findObj K D none "__class__"=some (.bind (.builtin "getset_descriptor.__get__") (.builtin "object.__class__")):=by
  obtain ⟨cd,hc⟩:=Option.isSome_iff_exists.mp hc
  delta findObj
  rw [hc,Option.bind_some,k.fc,Option.bind_some]
  show (specialIn K _ _).bind _=_
  rw [k.sg,Option.bind_some]
  show (takesIn K _).bind _=_
  rw [k.tk]
  rfl
 have L0:=I.type (M:=model prog w)
 have L1:=looks_find (M:=model prog w) X I hf
 unfold Builtin.«object.__getattribute__»
 refine zB (zH (zB (zH (zB (L0.at (zB (L1.at ?_)))))))
 exact zB (wpAny_holding (wpAny_call (class_get (ox:=ox) (od:=none) X I k.mo (zH h))))
theorem Rz{Q:Option Value->Shared->Prop}(k:ExcK K D)(X:K.In s.heap)(I:InstAt s.heap x ox D none)(h:Q (some (.ref D)) { s with toks:=s.toks+1 }):wpAny (model prog w) A (getAttr? (.ref x) "__class__") Q E s:=by
 obtain ⟨hh,g,d,t,os⟩:=s
 have L0:=I.type (M:=model prog w)
 have L1:=looks_findIn (M:=model prog w) X k.ga
 have L2:=looks_findIn (M:=model prog w) X k.gt
 unfold getAttr? getAttrBy? getAttrBy
 refine zB (wpAny_mkText (zB (wpAny_attempt (wpAny_holding (zB (L0.at (zB (L1.at ?_))))))))
 unfold getAttrByItsOwn
 refine zB ?_
 refine L2.at ?_
 refine zB (wpAny_attempt (wpAny_holding ?_))
 show wpAny _ _ (boundAndCalled _ _ _) _ _ _
 unfold boundAndCalled
 refine zB (wpAny_of_eq (Aaj.bind (.ref x)) ?_)
 refine wpAny_call (codeAny_call_builtin Aaj.plain F.entry_bexc_ga (exc_check k X I (T6 k X I ?_)))
 exact handed_on rfl (zH h)
theorem Ky{D:Addr}{M:Model}{h:Heap}(hc:(clsIn K D).isSome=true)(X:K.In h):Looks M h (isType (.ref D)) true:=by
 delta clsIn at hc
 cases ho:K.lookup D with
 | none=>rw [ho] at hc;exact nomatch hc
 | some o =>
  rw [ho] at hc
  obtain ⟨c,d,data,sl⟩:=o
  cases data with
  | cls cd =>
   intro A' Q' E' s' k q
   unfold isType loadHead
   exact zB (wpAny_loadPart (k _ _ (X _ _ ho)) (zH q))
  | _=>exact nomatch hc
theorem Ox{c:Value}{dep:Int}{tk:Tok}{b:Bool}{Q:Fin->Shared->Prop}(k:ExcK K D)(X:K.In s.heap)(I:InstAt s.heap x ox D none)(hty:Looks (model prog w) s.heap (typeOf c) (.type "type"))(his:Looks (model prog w) s.heap (isType c) true)
 (hself:(Value.ref D == c)=true->b=true) (hsub:Looks (model prog w) s.heap (isSubtype (.ref D) c) b) (h:∀ tk,Q (.done (.ret (.bool b))) { s with toks:=tk }) :
 wpAny (model prog w) A (Builtin.«isinstance.nested» ⟨[.ref x,c,.int dep tk],[]⟩) Q E s:=by
 have hisD:Looks (model prog w) s.heap (isType (.ref D)) true:=Ky (by refine ex1 (any_some k.hd) fun cd zz=>Ac zz fun hc _=>?_;rw [hc];rfl) X
 obtain ⟨h0,g,d,tt,os⟩:=s
 have L0:=I.type (M:=model prog w)
 have LI:Looks (model prog w) h0 (isInstance (.ref x) c) b:=L0.andThen hsub
 unfold Builtin.«isinstance.nested»
 refine zB (L0.at ?_)
 by_cases q:(Value.ref D == c)=true
 · rw [if_pos q]
   have hb:=hself q
   subst hb
   exact zB (wpAny_rule (zB (zH (zH (h tt)))))
 rw [if_neg q]
 refine zB (hty.at ?_)
 k_delta "plainIsInstance"
 refine zB (zB (his.at ?_))
 simp only [Bool.not_true,Bool.false_eq_true,if_false]
 refine zB (LI.at ?_)
 cases b with
 | true =>
  simp only [if_true]
  first
   | exact zH (h tt)
   | exact zH (zH (h tt))
   | exact zB (zH (zH (h tt)))
 | false =>
  simp only [Bool.false_eq_true,if_false]
  refine zB (Rz k X I ?_)
  refine zB (hisD.at ?_)
  simp only [Bool.not_true,Bool.false_eq_true,if_false]
  refine zB (wpAny_rule ?_)
  refine hsub.at ?_
  first
   | exact zH (h _)
   | exact zH (zH (h _))
   | exact zB (zH (zH (h _)))
theorem T7{c:Value}{b:Bool}{Q:Value->Shared->Prop}(k:ExcK K D)(X:K.In s.heap)(I:InstAt s.heap x ox D none)(hty:∀ (M:Model) h',K.In h'->Looks M h' (typeOf c) (.type "type"))(his:∀ (M:Model) h',K.In h'->Looks M h' (isType c) true)
 (hself:(Value.ref D == c)=true->b=true) (hsub:∀ (M:Model) h',K.In h'->Looks M h' (isSubtype (.ref D) c) b) (h:∀ tk,Q (.bool b) { s with toks:=tk }):wpAny (model prog w) A (call (.builtin "isinstance") [.ref x,c]) Q E s :=
 call_isinstance (S:=fun _ R s=>(K.In s.heap/\InstAt s.heap x ox D none)/\∀ tk,R (.ok (.ret (.bool b))) { s with toks:=tk })
  (fun _ _ _ _ _ hs=>isinstance_outer (Ox k hs.1.1 hs.1.2 (hty _ _ hs.1.1) (his _ _ hs.1.1) hself (hsub _ _ hs.1.1) hs.2) (by intro q;cases q)) ⟨⟨X,I⟩,h⟩
end
theorem Nr{K:Frag}{v:Value}(h:Qe K v=true){M:Model}{g:Heap}(X:K.In g):Looks M g (typeOf v) (.type "type")/\Looks M g (isType v) true:=by
 cases v with
 | ref a =>
  have h:=(Bool.and_eq_true _ _).mp h
  exact ⟨looks_typeIn X (beq_iff_eq.mp h.2),Ky h.1 X⟩
 | type T =>
  have h:T="ValueError":=of_decide_eq_true h
  subst h
  exact ⟨Looks.of_pure (by kernel_rfl),Looks.of_pure rfl⟩
 | _=>cases h
end Mine.Internal
namespace Mine.Internal
open PySem
noncomputable abbrev Rho:=List (Addr × Addr)
noncomputable def Av(ρ:Rho)(a:Addr):Prop:=∃ p∈ρ,a=p.1\/a=p.2
noncomputable def J1(ρ:Rho)(h:Heap)(ρ':Rho):Prop:=∃ e,ρ'=ρ++e/\∀ p∈e,h.get? p.1=none/\h.get? p.2=none
noncomputable def E3(h h':Heap):Prop:=∀ b o,h.get? b=some o->∃ o',h'.get? b=some o'
theorem E3.refl(h:Heap):E3 h h:=fun _ o e=>⟨o,e⟩
theorem E3.trans{h h' h'':Heap}(x:E3 h h')(y:E3 h' h''):E3 h h'':=fun b o e=>let ⟨o',e'⟩:=x b o e;y b o' e'
theorem E3.none{h h':Heap}(x:E3 h h'){a:Addr}(e:h'.get? a=none):h.get? a=none:=by
 cases q:h.get? a with
 | none=>rfl
 | some o=>obtain ⟨o',e'⟩:=x a o q;rw [e] at e';exact Ad e'
theorem Am(h:Heap):h.get? h.objs.size=none:=by
 cases q:h.get? h.objs.size with
 | none=>rfl
 | some o=>exact absurd (Heap.lt_size q) (Nat.lt_irrefl _)
theorem Ge{h:Heap}{a:Addr}(z:h.objs.size<=a):h.get? a=none:=by
 cases q:h.get? a with
 | none=>rfl
 | some o=>exact absurd (Heap.lt_size q) (Nat.not_lt.mpr z)
noncomputable def D5(o o':Obj):Prop:=o'=o\/((∃ es n,o.data=.dict es n)/\o'={ o with slots:=o'.slots })
theorem D5.refl(o:Obj):D5 o o:=.inl rfl
theorem D5.trans{o o' o'':Obj}(x:D5 o o')(y:D5 o' o''):D5 o o'':=by
 rcases x with rfl | ⟨c,e⟩
 · exact y
 · rcases y with rfl | ⟨_,e'⟩
   · exact .inr ⟨c,e⟩
   · exact .inr ⟨c,by rw [e',e]⟩
theorem D5.exact{o o':Obj}(x:D5 o o')(n:∀ es n,o.data≠.dict es n):o'=o:=x.elim id fun ⟨⟨es,k,e⟩,_⟩=>absurd e (n es k)
theorem D5.data{o o':Obj}(x:D5 o o'):o'.data=o.data:=by rcases x with rfl | ⟨_,e⟩;rfl;rw [e]
noncomputable def Ah7(ρ:Rho)(h h':Heap):Prop:=∀ b o,h.get? b=some o->¬Av ρ b->∃ o',h'.get? b=some o'/\D5 o o'
theorem Ah7.exact{ρ:Rho}{h h':Heap}(k:Ah7 ρ h h'){b:Addr}{o:Obj}(e:h.get? b=some o)(n:¬Av ρ b)(c:∀ es n,o.data≠.dict es n):h'.get? b=some o:=by
 refine ex1 (k b o e n) fun o' zz=>Ac zz fun e' u=>?_
 rw [e',u.exact c]
noncomputable def Fo(o:Obj):Prop:=(o.cls=.type "tuple"/\∃ xs n,o.data=.seq xs n)\/(o.cls=.type "range"/\∃ vs,o.data=.fields vs)
noncomputable def C8(o:Obj)(C:Addr):Prop:=o.cls=.ref C/\(∃ vs,o.data=.fields vs)/\o.dict=none
theorem Fo.notDict{o:Obj}(f:Fo o)(es:Array DictEntry)(n:Nat):o.data≠.dict es n:=by
 rcases f with ⟨_,xs,k,e⟩ | ⟨_,vs,e⟩ <;> rw [e] <;> exact fun q=>nomatch q
theorem C8.notDict{o:Obj}{C:Addr}(f:C8 o C)(es:Array DictEntry)(n:Nat):o.data≠.dict es n:=by
 refine Ap f fun _ zn1 _=>?_;obtain ⟨vs,e⟩:=zn1
 rw [e];exact fun q=>nomatch q
theorem J1.refl(ρ:Rho)(h:Heap):J1 ρ h ρ:=⟨[],by simp,by simp⟩
theorem J1.owned{ρ ρ':Rho}{h:Heap}(g:J1 ρ h ρ'){a:Addr}(o:Av ρ' a):Av ρ a\/h.get? a=none:=by
 refine ex1 g fun e zz=>Ac zz fun zr1 he=>?_;subst zr1
 refine ex1 o fun p zz=>Ac zz fun hp hpa=>?_
 rcases List.mem_append.mp hp with hp | hp
 · exact .inl ⟨p,hp,hpa⟩
 · right
   rcases hpa with rfl | rfl
   · exact (he p hp).1
   · exact (he p hp).2
theorem J1.sub{ρ ρ':Rho}{h:Heap}(g:J1 ρ h ρ'){a:Addr}(o:Av ρ a):Av ρ' a:=by
 refine ex1 g fun e zz=>Ac zz fun zr1 he=>?_;subst zr1
 refine ex1 o fun p zz=>Ac zz fun hp hpa=>?_
 exact ⟨p,List.mem_append.mpr (.inl hp),hpa⟩
theorem J1.get{ρ ρ':Rho}{h:Heap}(g:J1 ρ h ρ'){l:Nat}{p:Addr × Addr}(e:ρ[l]?=some p):ρ'[l]?=some p:=by
 refine ex1 g fun e' zz=>Ac zz fun zr1 he=>?_;subst zr1
 obtain ⟨hl,_⟩:=List.getElem?_eq_some_iff.mp e
 rw [List.getElem?_append_left hl,e]
theorem J1.not{ρ ρ':Rho}{h:Heap}(g:J1 ρ h ρ'){a:Addr}{o:Obj}(n:¬Av ρ a)(e:h.get? a=some o):¬Av ρ' a:=fun w=>by
 rcases g.owned w with w | w
 · exact n w
 · rw [e] at w;cases w
theorem J1.trans{ρ ρ' ρ'':Rho}{h h':Heap}(x:J1 ρ h ρ')(y:J1 ρ' h' ρ'')(z:E3 h h'):J1 ρ h ρ'':=by
 refine ex1 x fun e1 zz=>Ac zz fun zr1 h1=>?_;subst zr1
 refine ex1 y fun e2 zz=>Ac zz fun zr1 h2=>?_;subst zr1
 refine ⟨e1++e2,by rw [List.append_assoc],fun p hp=>?_⟩
 rcases List.mem_append.mp hp with hp | hp
 · exact h1 p hp
 · exact ⟨z.none (h2 p hp).1,z.none (h2 p hp).2⟩
structure Step(ρ:Rho)(h:Heap)(ρ':Rho)(h':Heap):Prop where
 more:∃ e,ρ'=ρ++e
 keepT:∀ b o,h.get? b=some o->Fo o->¬Av ρ b->h'.get? b=some o/\¬Av ρ' b
 keepC:∀ b o C,h.get? b=some o->C8 o C->¬Av ρ b->∃ o',h'.get? b=some o'/\C8 o' C/\¬Av ρ' b
theorem Step.get{ρ ρ':Rho}{h h':Heap}(st:Step ρ h ρ' h'){l:Nat}{p:Addr × Addr}(e:ρ[l]?=some p):ρ'[l]?=some p:=by
 obtain ⟨e',rfl⟩:=st.more
 obtain ⟨hl,_⟩:=List.getElem?_eq_some_iff.mp e
 rw [List.getElem?_append_left hl,e]
structure Full(ρ:Rho)(h:Heap)(ρ':Rho)(h':Heap):Prop where
 grow:J1 ρ h ρ'
 keep:Ah7 ρ h h'
 live:E3 h h'
theorem Full.step{ρ ρ':Rho}{h h':Heap}(x:Full ρ h ρ' h'):Step ρ h ρ' h' :=
 ⟨let ⟨e,h1,_⟩:=x.grow;⟨e,h1⟩,fun b o e f n=>⟨x.keep.exact e n f.notDict,x.grow.not n e⟩,fun b o C e c n=>⟨o,x.keep.exact e n c.notDict,c,x.grow.not n e⟩⟩
theorem Full.refl(ρ:Rho)(h:Heap):Full ρ h ρ h:=⟨J1.refl ρ h,fun _ o e _=>⟨o,e,.refl o⟩,.refl h⟩
theorem Step.refl(ρ:Rho)(h:Heap):Step ρ h ρ h:=(Full.refl ρ h).step
theorem Full.trans{ρ ρ' ρ'':Rho}{h h' h'':Heap}(x:Full ρ h ρ' h')(y:Full ρ' h' ρ'' h''):Full ρ h ρ'' h'' :=
 ⟨x.grow.trans y.grow x.live,fun b o e n=>by
  refine ex1 (x.keep b o e n) fun o' zz=>Ac zz fun e' u=>?_
  refine ex1 (y.keep b o' e' (x.grow.not n e)) fun o'' zz=>Ac zz fun e'' u'=>?_
  exact ⟨o'',e'',u.trans u'⟩,x.live.trans y.live⟩
theorem Full.more{ρ:Rho}{h h':Heap}(k:∀ b o,h.get? b=some o->h'.get? b=some o):Full ρ h ρ h' :=
 ⟨J1.refl ρ h,fun b o e _=>⟨o,k b o e,.refl o⟩,fun b o e=>⟨o,k b o e⟩⟩
theorem Full.push(ρ:Rho)(h:Heap)(o:Obj):Full ρ h ρ (h.push o):=Full.more fun _ _ e=>Heap.get?_push_of_some _ e
theorem Full.alloc{ρ:Rho}{h h':Heap}{p:Addr × Addr}(k:∀ b o,h.get? b=some o->h'.get? b=some o)(hp:h.get? p.1=none/\h.get? p.2=none):Full ρ h (ρ++[p]) h' :=
 ⟨⟨[p],rfl,fun q hq=>by rw [List.mem_singleton.mp hq];exact hp⟩,fun b o e _=>⟨o,k b o e,.refl o⟩,fun b o e=>⟨o,k b o e⟩⟩
theorem Step.ext{ρ:Rho}{h h':Heap}{a:Addr}{o:Obj}(e:h.get? a=some o)(hs:Heap.ExtBut a h h')(n1:¬Fo o)(n2:∀ C,¬C8 o C):Step ρ h ρ h' :=
 ⟨⟨[],by simp⟩,fun b ob eb f no=>⟨hs b ob (fun q=>by subst q;rw [e] at eb;cases eb;exact n1 f) eb,no⟩,
  fun b ob C eb c no=>⟨ob,hs b ob (fun q=>by subst q;rw [e] at eb;cases eb;exact n2 C c) eb,c,no⟩⟩
theorem SameBut.live{h h':Heap}{a:Addr}{o':Obj}(hs:Heap.SameBut a h h')(e':h'.get? a=some o'):E3 h h':=fun b o e=>by
 by_cases q:b=a
 · subst q;exact ⟨o',e'⟩
 · exact ⟨o,by rw [hs.2 b q];exact e⟩
theorem Step.but{ρ:Rho}{h h':Heap}{a:Addr}{o o':Obj}(e':h'.get? a=some o')(e:h.get? a=some o)(hs:Heap.SameBut a h h')(n1:¬Fo o)(n2:∀ C,¬C8 o C):Step ρ h ρ h' :=
 ⟨⟨[],by simp⟩,fun b ob eb f no=>by
  by_cases q:b=a
  · subst q;rw [e] at eb;cases eb;exact absurd f n1
  · rw [hs.2 b q];exact ⟨eb,no⟩,
  fun b ob C eb c no=>by
   by_cases q:b=a
   · subst q;rw [e] at eb;cases eb;exact absurd c (n2 C)
   · exact ⟨ob,by rw [hs.2 b q];exact eb,c,no⟩⟩
theorem Full.own{ρ:Rho}{h h':Heap}{a:Addr}{o':Obj}(o:Av ρ a)(e':h'.get? a=some o')(hs:Heap.SameBut a h h'):Full ρ h ρ h' :=
 ⟨J1.refl ρ h,fun b ob eb n=>by
  have q:b≠a:=fun q=>n (q▸o)
  exact ⟨ob,by rw [hs.2 b q];exact eb,.refl ob⟩,SameBut.live hs e'⟩
noncomputable def Qh(vs:List Value)(n:Nat):Obj:={ cls:=.type "tuple",dict:=none,data:=.seq vs.toArray n,slots:=#[] }
mutual
inductive VR(ρ:Rho)(h:Heap):Val->Value->Prop
 | none:VR ρ h .none .none
 | bool (b:Bool):VR ρ h (.bool b) (.bool b)
 | int (i:Int) (t:Tok):VR ρ h (.int i) (.int i t)
 | str (s:Str) (t:Tok):s.length<=sizeLine->VR ρ h (.str s) (.str s t)
 | tup {a:Addr} {vs:List Value} {n:Nat} {ms:List Val}:h.get? a=some (Qh vs n)->¬Av ρ a->ms.length<=sizeLine->VRs ρ h ms vs->VR ρ h (.tup ms) (.ref a)
 | loc {l:Nat} {p:Addr × Addr}:ρ[l]?=some p->VR ρ h (.loc l) (.ref p.1)
 | script {a:Addr} {vs:List Value} {n:Nat} {ns:List Int}:cx.h₀.get? a=some (Bp vs n)->ns.length<=sizeLine->VRs ρ h (ns.map .int) vs->VR ρ h (.script ns) (.ref a)
 | rng {a:Addr} {i:Int} {t u v:Tok}:IsRange h a 0 i 1 t u v->¬Av ρ a->-(2 ^ 62)<=i->i < 2 ^ 62->VR ρ h (.rng i) (.ref a)
 | exc {a:Addr} {o:Obj} {c:Nat} {C:Addr}:h.get? a=some o->¬Av ρ a->cx.cls[c]?=some (.ref C)->C8 o C->VR ρ h (.exc c) (.ref a)
inductive VRs(ρ:Rho)(h:Heap):List Val->List Value->Prop
 | nil:VRs ρ h [] []
 | cons {m:Val} {v:Value} {ms:List Val} {vs:List Value}:VR ρ h m v->VRs ρ h ms vs->VRs ρ h (m :: ms) (v :: vs)
end
theorem VRs.step{ρ ρ':Rho}{h h':Heap}(st:Step ρ h ρ' h'){ms:List Val}{vs:List Value}(r:VRs ρ h ms vs):VRs ρ' h' ms vs :=
 VRs.rec (motive_1:=fun m v _=>VR ρ' h' m v) (motive_2:=fun ms vs _=>VRs ρ' h' ms vs) .none .bool .int .str
  (fun e n z _ r=>.tup (st.keepT _ _ e (.inl ⟨rfl,_,_,rfl⟩) n).1 (st.keepT _ _ e (.inl ⟨rfl,_,_,rfl⟩) n).2 z r)
  (fun e=>.loc (st.get e)) (fun e z _ r=>.script e z r)
  (fun e n z1 z2=>.rng (st.keepT _ _ e (.inr ⟨rfl,_,rfl⟩) n).1 (st.keepT _ _ e (.inr ⟨rfl,_,rfl⟩) n).2 z1 z2)
  (fun e n k c=>(st.keepC _ _ _ e c n).elim fun o' w=>.exc w.1 w.2.2 k w.2.1) .nil (fun _ _ a r=>.cons a r) r
theorem VRs.head{ρ:Rho}{h:Heap}{m:Val}{v:Value}{ms:List Val}{vs:List Value}(r:VRs ρ h (m :: ms) (v :: vs)):VR ρ h m v:=by
 cases r;assumption
theorem VR.step{ρ ρ':Rho}{h h':Heap}(st:Step ρ h ρ' h'){m:Val}{v:Value}(x:VR ρ h m v):VR ρ' h' m v:=(VRs.step st (.cons x .nil)).head
section
variable{ρ:Rho}{h:Heap}{ms ms':List Val}{vs vs':List Value}{m:Val}{v:Value}
theorem VRs.length(r:VRs ρ h ms vs):ms.length=vs.length:=by
 induction ms generalizing vs with
 | nil=>cases r;rfl
 | cons m ms ih=>cases r with | cons a r=>rw [List.length_cons,List.length_cons,ih r]
theorem VRs.append(r:VRs ρ h ms vs)(r':VRs ρ h ms' vs'):VRs ρ h (ms++ms') (vs++vs'):=by
 induction ms generalizing vs with
 | nil=>cases r;exact r'
 | cons m ms ih=>cases r with | cons a r=>exact .cons a (ih r)
theorem VRs.get(r:VRs ρ h ms vs){k:Nat}(e:ms[k]?=some m):∃ v,vs[k]?=some v/\VR ρ h m v:=by
 induction ms generalizing vs k with
 | nil=>simp at e
 | cons m' ms ih =>
  cases r with
  | cons a r =>
   cases k with
   | zero=>simp at e;refine e▸?_;exact ⟨_,by simp,a⟩
   | succ k=>simp at e;refine ex1 (ih r e) fun v zz=>Ac zz fun hv hr=>?_;exact ⟨v,by simpa using hv,hr⟩
theorem VRs.get'(r:VRs ρ h ms vs){k:Nat}(e:vs[k]?=some v):∃ m,ms[k]?=some m/\VR ρ h m v:=by
 induction ms generalizing vs k with
 | nil=>cases r;simp at e
 | cons m' ms ih =>
  cases r with
  | cons a r =>
   cases k with
   | zero=>simp at e;refine e▸?_;exact ⟨_,by simp,a⟩
   | succ k=>simp at e;refine ex1 (ih r e) fun v zz=>Ac zz fun hv hr=>?_;exact ⟨v,by simpa using hv,hr⟩
theorem VRs.one(r:VR ρ h m v):VRs ρ h [m] [v]:=.cons r .nil
theorem VRs.set(r:VRs ρ h ms vs)(k:Nat)(a:VR ρ h m v):VRs ρ h (ms.set k m) (vs.set k v):=by
 induction ms generalizing vs k with
 | nil=>cases r;exact .nil
 | cons m' ms ih =>
  cases r with
  | cons b r =>
   cases k with
   | zero=>exact .cons a r
   | succ k=>exact .cons b (ih r k)
theorem VRs.take(r:VRs ρ h ms vs)(k:Nat):VRs ρ h (ms.take k) (vs.take k):=by
 induction ms generalizing vs k with
 | nil=>cases r;simp;exact .nil
 | cons m' ms ih =>
  cases r with
  | cons b r =>
   cases k with
   | zero=>exact .nil
   | succ k=>exact .cons b (ih r k)
theorem VRs.drop(r:VRs ρ h ms vs)(k:Nat):VRs ρ h (ms.drop k) (vs.drop k):=by
 induction ms generalizing vs k with
 | nil=>cases r;simp;exact .nil
 | cons m' ms ih =>
  cases r with
  | cons b r =>
   cases k with
   | zero=>exact .cons b r
   | succ k=>exact ih r k
theorem VRs.reverse(r:VRs ρ h ms vs):VRs ρ h ms.reverse vs.reverse:=by
 induction ms generalizing vs with
 | nil=>cases r;exact .nil
 | cons m' ms ih =>
  cases r with
  | cons b r =>
   rw [List.reverse_cons,List.reverse_cons]
   exact (ih r).append (.one b)
theorem VRs.eraseIdx(r:VRs ρ h ms vs)(k:Nat):VRs ρ h (ms.eraseIdx k) (vs.eraseIdx k):=by
 induction ms generalizing vs k with
 | nil=>cases r;simp;exact .nil
 | cons m' ms ih =>
  cases r with
  | cons b r =>
   cases k with
   | zero=>exact r
   | succ k=>exact .cons b (ih r k)
theorem VRs.replicate(a:VR ρ h m v)(n:Nat):VRs ρ h (List.replicate n m) (List.replicate n v):=by
 induction n with
 | zero=>exact .nil
 | succ n ih=>exact .cons a ih
end
noncomputable abbrev cellKind:HeapKind cx.prog cx.w (List Int):=tupleKind (intKind cx.prog cx.w)
inductive DRs(ρ:Rho)(h:Heap):List (Key × Val)->List (List Int × Addr × Value)->Prop
 | nil:DRs ρ h [] []
 | cons {k:Key} {v:Val} {b:Addr} {x:Value} {es:List (Key × Val)} {xs:List (List Int × Addr × Value)} :
  VR ρ h v x->VR ρ h (Ab k) (.ref b)->DRs ρ h es xs->DRs ρ h ((k,v) :: es) (([k.1,k.2],b,x) :: xs)
theorem DRs.step{ρ ρ':Rho}{h h':Heap}(st:Step ρ h ρ' h'){es:List (Key × Val)}{xs:List (List Int × Addr × Value)}(r:DRs ρ h es xs):DRs ρ' h' es xs:=by
 induction r with
 | nil=>exact .nil
 | @cons k v b x es xs a n _ ih=>exact .cons (a.step st) (n.step st) ih
theorem VR.free{ρ:Rho}{h:Heap}{vs:List Val}{b:Addr}(x:VR ρ h (.tup vs) (.ref b)):¬Av ρ b:=by
 cases x with
 | tup _ no _ _=>exact no
inductive HR(ρ:Rho)(h:Heap):HObj->Addr × Addr->Prop
 | list {a:Addr} {vs:List Value} {n:Nat} {xs:List Val}:h.get? a=some (Bp vs n)->VRs ρ h xs vs->xs.length<=sizeLine->HR ρ h (.list xs) (a,a)
 | dict {a:Addr} {es:List (Key × Val)} {xs:List (List Int × Addr × Value)}:h.DictOfH (cellKind) a xs->DRs ρ h es xs->es.length<=sizeLine->HR ρ h (.dict es) (a,a)
 | inst {a d C:Addr} {o:Obj} {c:Nat} {fs:List (Nat × Val)} {mA:Str->Option Value}:(cx.T.meth c 0).isSome=true->cx.cls[c]?=some (.ref C)->h.get? a=some o->o.cls=.ref C->(∀ c,o.data≠.cls c)->o.dict=some d->d≠a->h.Ns1 d mA ->
  (∀ n v,fs.lookup n=some v->∃ y x,cx.attrs[n]?=some y/\mA y=some x/\VR ρ h v x) ->
  (∀ y,mA y≠none->∃ n v,cx.attrs[n]?=some y/\fs.lookup n=some v) ->
  HR ρ h (.inst c fs) (a,d)
 | hid {a:Addr} {x y:Value}:h.get? a=some (Qh [x,y] 0)->HR ρ h .hid (a,a)
structure Rel(H:Hp)(ρ:Rho)(s:Shared):Prop where
 len:H.length=ρ.length
 objs:∀ (l:Nat) (o:HObj) (p:Addr × Addr),H[l]?=some o->ρ[l]?=some p->HR ρ s.heap o p
 apart:∀ (i j:Nat) (p q:Addr × Addr),i≠j->ρ[i]?=some p->ρ[j]?=some q->(p.1≠q.1/\p.1≠q.2)/\(p.2≠q.1/\p.2≠q.2)
 new:∀ p∈ρ,cx.h₀.get? p.1=none/\cx.h₀.get? p.2=none
 base:∀ b o,cx.h₀.get? b=some o->s.heap.get? b=some o
 sys:∃ o,cx.h₀.get? sysModules=some o
 rest:∃ h tk,s={ cx.s₀ with heap:=h,toks:=tk }
theorem Rel.size{H:Hp}{ρ:Rho}{s:Shared}(R:Rel H ρ s):∀ p∈ρ,(∃ o,s.heap.get? p.1=some o)/\∃ o,s.heap.get? p.2=some o:=by
 intro p hp
 refine ex1 (List.mem_iff_getElem.mp hp) fun l zz=>ex1 zz fun hl e=>?_
 have e':ρ[l]?=some p:=by rw [List.getElem?_eq_getElem hl,e]
 have hH:l < H.length:=by rw [R.len];exact hl
 obtain ⟨ob,hob⟩:∃ ob,H[l]?=some ob:=⟨_,List.getElem?_eq_getElem hH⟩
 have:=R.objs l ob p hob e'
 clear e e'
 cases this with
 | list q _ _=>exact ⟨⟨_,q⟩,_,q⟩
 | dict q _ _=>refine ex3 q fun o _ _ zz=>Ac zz fun q _=>?_;exact ⟨⟨_,q⟩,_,q⟩
 | inst _ _ q _ _ _ _ n _ _=>refine ex3 n fun o' _ _ zz=>Ac zz fun q' _=>?_;exact ⟨⟨_,q⟩,_,q'⟩
 | hid q=>exact ⟨⟨_,q⟩,_,q⟩
theorem Rel.owned_lt{H:Hp}{ρ:Rho}{s:Shared}(R:Rel H ρ s){a:Addr}(o:Av ρ a):∃ o,s.heap.get? a=some o:=by
 obtain ⟨p,hp,rfl | rfl⟩:=o
 · exact (R.size p hp).1
 · exact (R.size p hp).2
theorem Rel.owned_new{H:Hp}{ρ:Rho}{s:Shared}(R:Rel H ρ s){a:Addr}(o:Av ρ a):cx.h₀.get? a=none:=by
 obtain ⟨p,hp,rfl | rfl⟩:=o
 · exact (R.new p hp).1
 · exact (R.new p hp).2
theorem Rel.base_not{H:Hp}{ρ:Rho}{s:Shared}(R:Rel H ρ s){a:Addr}{o:Obj}(e:cx.h₀.get? a=some o):¬Av ρ a:=fun w=>by rw [R.owned_new w] at e;exact Ad e
theorem HR.step{ρ ρ':Rho}{h h':Heap}{o:HObj}{p:Addr × Addr}(x:HR ρ h o p)(st:Step ρ h ρ' h')(k:∀ b ob,(b=p.1\/b=p.2)->h.get? b=some ob->h'.get? b=some ob):HR ρ' h' o p:=by
 cases x with
 | list e r z=>exact .list (k _ _ (.inl rfl) e) (r.step st) z
 | @dict a es xs D r z =>
  obtain ⟨ob,es',ep,e,ex,d,el,ks,nd⟩:=D
  have ks':∀ x∈xs,(cellKind).is h' x.1 x.2.1:=by
   intro x hx
   obtain ⟨ok,items,n,hk,hc,hd',rest⟩:=ks x hx
   refine ⟨ok,items,n,(st.keepT _ _ hk (.inl ⟨hc,_,_,hd'⟩) ?_).1,hc,hd',rest⟩
   clear rest el nd z ks d ex e k
   induction r with
   | nil=>cases hx
   | cons a n _ ih =>
    cases hx with
    | head=>exact VR.free n
    | tail _ hx=>exact ih hx
  exact .dict ⟨ob,es',ep,k _ _ (.inl rfl) e,ex,d,el,ks',nd⟩ (r.step st) z
 | hid e=>exact .hid (k _ _ (.inl rfl) e)
 | inst c0 c e k1 k2 k3 k4 n f g =>
  refine .inst c0 c (k _ _ (.inl rfl) e) k1 k2 k3 k4 (n.at fun o e=>k _ _ (.inr rfl) e) (fun i v hv=>?_) g
  refine Ae fun G kG=>?_
  obtain ⟨y,x,h1,h2,h3⟩:=f i v hv
  refine kG ?_
  exact ⟨y,x,h1,h2,h3.step st⟩
section
variable{H:Hp}{ρ:Rho}{s:Shared}
theorem Rel.same(R:Rel H ρ s){h':Heap}{tk:Nat}(st:Step ρ s.heap ρ h')(ko:∀ b o,Av ρ b->s.heap.get? b=some o->h'.get? b=some o)(kb:∀ b o,cx.h₀.get? b=some o->h'.get? b=some o) :
 Rel H ρ { s with heap:=h',toks:=tk }:=by
 refine ⟨R.len,fun l o p hl hp=>?_,R.apart,R.new,kb,R.sys,?_⟩
 · refine (R.objs l o p hl hp).step st fun b ob hb e=>ko b ob ⟨p,zF hp,hb⟩ e
 · refine ex2 R.rest fun h t hr0=>?_;refine Eq.symm hr0▸?_
   exact ⟨h',tk,rfl⟩
theorem Rel.toks(R:Rel H ρ s)(tk:Nat):Rel H ρ { s with toks:=tk } :=
 R.same (h':=s.heap) (Step.refl _ _) (fun _ _ _ e=>e) R.base
theorem Rel.more(R:Rel H ρ s){h':Heap}{tk:Nat}(k:∀ b o,s.heap.get? b=some o->h'.get? b=some o):Rel H ρ { s with heap:=h',toks:=tk } :=
 R.same (Full.more k).step (fun b o _ e=>k b o e) fun b o e=>k b o (R.base b o e)
theorem Rel.push(R:Rel H ρ s)(o:Obj)(tk:Nat):Rel H ρ { s with heap:=s.heap.push o,toks:=tk } :=
 R.more fun _ _ e=>Heap.get?_push_of_some _ e
theorem Rel.but(R:Rel H ρ s){h':Heap}{tk:Nat}{a:Addr}{o:Obj}{o':Obj}(e':h'.get? a=some o')(e:s.heap.get? a=some o)(hs:Heap.SameBut a s.heap h')(n1:¬Fo o)(n2:∀ C,¬C8 o C)(no:¬Av ρ a)(nb:cx.h₀.get? a=none) :
 Rel H ρ { s with heap:=h',toks:=tk } :=
 R.same (Step.but e' e hs n1 n2) (fun b ob ho eb=>by rw [hs.2 b (fun q=>no (q▸ho))];exact eb) fun b ob eb=>by
  rw [hs.2 b (fun q=>by subst q;rw [nb] at eb;exact nomatch eb)];exact R.base b ob eb
theorem Rel.fresh_not(R:Rel H ρ s){a:Addr}(ha:s.heap.get? a=none):¬Av ρ a:=fun w=>by obtain ⟨o,e⟩:=R.owned_lt w;rw [ha] at e;exact Ad e
theorem Rel.alloc(R:Rel H ρ s){h':Heap}{tk:Nat}{o:HObj}{p:Addr × Addr}(k:∀ b o,s.heap.get? b=some o->h'.get? b=some o)
 (hp:s.heap.get? p.1=none/\s.heap.get? p.2=none) (x:HR (ρ++[p]) h' o p):Full ρ s.heap (ρ++[p]) h'/\Rel (H++[o]) (ρ++[p]) { s with heap:=h',toks:=tk }:=by
 have F:Full ρ s.heap (ρ++[p]) h':=⟨⟨[p],rfl,fun q hq=>by rw [List.mem_singleton.mp hq];exact hp⟩,fun b o e _=>⟨o,k b o e,.refl o⟩,fun b o e=>⟨o,k b o e⟩⟩
 refine ⟨F,⟨by rw [List.length_append,List.length_append,R.len];rfl,fun l ob q hl hq=>?_,fun i j q r hij hi hj=>?_,fun q hq=>?_,fun b o e=>k b o (R.base b o e),R.sys,?_⟩⟩
 · by_cases lt:l < H.length
   · rw [List.getElem?_append_left lt] at hl
     rw [List.getElem?_append_left (by rw [<- R.len];exact lt)] at hq
     exact (R.objs l ob q hl hq).step F.step fun b ob _ e=>k b ob e
   · have hl':=(List.getElem?_eq_some_iff.mp hl).1
     have le:l=H.length:=by rw [List.length_append] at hl';simp at hl';exact o1 hl' lt
     subst le
     rw [List.getElem?_append_right (zI _)] at hl
     rw [List.getElem?_append_right (by rw [R.len];exact zI _)] at hq
     rw [R.len] at hq
     simp at hl hq
     subst hl hq
     exact x
 · have old:∀ {i:Nat} {q:Addr × Addr},ρ[i]?=some q->(∃ o,s.heap.get? q.1=some o)/\∃ o,s.heap.get? q.2=some o:=fun h=>R.size _ (zF h)
   have ne:∀ {a b:Addr},(∃ o,s.heap.get? a=some o)->s.heap.get? b=none->a≠b:=fun ⟨o,e⟩ n q=>by rw [q,n] at e;exact Ad e
   have at':∀ {i:Nat} {q:Addr × Addr},(ρ++[p])[i]?=some q->ρ[i]?=some q\/(i=ρ.length/\q=p):=by
    intro i q h
    by_cases lt:i < ρ.length
    · rw [List.getElem?_append_left lt] at h;exact .inl h
    · have hl':=(List.getElem?_eq_some_iff.mp h).1
      have le:i=ρ.length:=by rw [List.length_append] at hl';simp at hl';exact o1 hl' lt
      subst le
      rw [List.getElem?_append_right (zI _)] at h
      simp at h
      exact .inr ⟨rfl,h.symm⟩
   rcases at' hi with hi' | ⟨hi',eq⟩ <;> rcases at' hj with hj' | ⟨hj',er⟩
   · exact R.apart i j q r hij hi' hj'
   · have q:=old hi';rw [er];exact ⟨⟨ne q.1 hp.1,ne q.1 hp.2⟩,ne q.2 hp.1,ne q.2 hp.2⟩
   · have q:=old hj';rw [eq];exact ⟨⟨(ne q.1 hp.1).symm,(ne q.2 hp.1).symm⟩,(ne q.1 hp.2).symm,(ne q.2 hp.2).symm⟩
   · exact absurd (hi'.trans hj'.symm) hij
 · rcases List.mem_append.mp hq with hq | hq
   · exact R.new q hq
   · have lv:E3 cx.h₀ s.heap:=fun b o e=>⟨o,R.base b o e⟩
     rw [List.mem_singleton.mp hq];exact ⟨lv.none hp.1,lv.none hp.2⟩
 · refine ex2 R.rest fun h t hr0=>?_;refine Eq.symm hr0▸?_
   exact ⟨h',tk,rfl⟩
theorem Rel.set(R:Rel H ρ s){l:Nat}{h':Heap}{tk:Nat}{o:HObj}{p:Addr × Addr}(hl:ρ[l]?=some p)(k:∀ b o,s.heap.get? b=some o->b≠p.1->b≠p.2->h'.get? b=some o)(z:E3 s.heap h')
 (x:HR ρ h' o p):Full ρ s.heap ρ h'/\Rel (H.set l o) ρ { s with heap:=h',toks:=tk }:=by
 have own:∀ b,¬Av ρ b->b≠p.1/\b≠p.2:=fun b n=>⟨fun e=>n ⟨p,zF hl,.inl e⟩,fun e=>n ⟨p,zF hl,.inr e⟩⟩
 have F:Full ρ s.heap ρ h':=⟨J1.refl _ _,fun b ob e n=>⟨ob,k b ob e (own b n).1 (own b n).2,.refl ob⟩,z⟩
 refine ⟨F,⟨by rw [List.length_set,R.len],fun i ob q hi hq=>?_,R.apart,R.new,fun b ob e=>?_,R.sys,?_⟩⟩
 · by_cases e:i=l
   · subst e
     rw [hl] at hq;cases hq
     have lt:i < H.length:=by rw [R.len];exact (List.getElem?_eq_some_iff.mp hl).1
     rw [List.getElem?_set_self lt] at hi
     cases hi;exact x
   · rw [List.getElem?_set_ne (fun q=>e q.symm)] at hi
     refine (R.objs i ob q hi hq).step F.step fun b ob' hb eb=>?_
     refine Ap (R.apart i l q p e hq hl) fun zn0 a3 a4=>?_;obtain ⟨a1,a2⟩:=zn0
     rcases hb with rfl | rfl
     · exact k _ _ eb a1 a2
     · exact k _ _ eb a3 a4
 · have n:=R.base_not e
   exact k b ob (R.base b ob e) (own b n).1 (own b n).2
 · refine ex2 R.rest fun h t hr0=>?_;refine Eq.symm hr0▸?_
   exact ⟨h',tk,rfl⟩
end
structure Amb where
 P:Rho->Heap->Prop
 st:∀ ρ h ρ' h',P ρ h->Full ρ h ρ' h'->P ρ' h'
noncomputable def Amb.and(P Q:Amb):Amb:=⟨fun ρ h=>P.P ρ h/\Q.P ρ h,fun ρ h ρ' h' x f=>⟨P.st _ _ _ _ x.1 f,Q.st _ _ _ _ x.2 f⟩⟩
noncomputable def Amb.tt:Amb:=⟨fun _ _=>True,fun _ _ _ _ _ _=>trivial⟩
noncomputable def Amb.prop(p:Prop):Amb:=⟨fun _ _=>p,fun _ _ _ _ x _=>x⟩
noncomputable def Amb.vr(m:Val)(v:Value):Amb:=⟨fun ρ h=>VR ρ h m v,fun _ _ _ _ x f=>x.step f.step⟩
noncomputable def Amb.vrs(ms:List Val)(vs:List Value):Amb:=⟨fun ρ h=>VRs ρ h ms vs,fun _ _ _ _ x f=>x.step f.step⟩
structure Flying(ρ:Rho)(h h':Heap)(c:Nat)(e:Value):Prop where
 is:∃ (a C:Addr) (vs:Array Value),e=.ref a/\cx.cls[c]?=some (.ref C)/\h.get? a=none/\h'.get? a=some { cls:=.ref C,dict:=none,data:=.fields vs,slots:=#[] }/\vs.size=6/\¬Av ρ a /\
  (vs[1]?=some .none\/∃ (tb:Addr) (tvs:Array Value),vs[1]?=some (.ref tb)/\h.get? tb=none/\h'.get? tb=some { cls:=.type "traceback",dict:=none,data:=.fields tvs,slots:=#[] }/\tvs.size=11/\¬Av ρ tb)
theorem Flying.older{ρ:Rho}{h₁ h h':Heap}{c:Nat}{e:Value}(x:Flying ρ h h' c e)(z:E3 h₁ h):Flying ρ h₁ h' c e:=by
 refine ex3 x.is fun a C vs zz=>Ov zz fun e1 e2 e3 e4 e5 e6 e7=>?_
 refine ⟨a,C,vs,e1,e2,z.none e3,e4,e5,e6,?_⟩
 rcases e7 with e7 | ⟨tb,tvs,f1,f2,f3⟩
 · exact .inl e7
 · exact .inr ⟨tb,tvs,f1,z.none f2,f3⟩
noncomputable def A8{α β:Type}(A:Around)(r:Res β)(t:Sem α)(V:β->α->Amb)(ρ:Rho)(s:Shared):Prop :=
 match r with
 | .bad=>True
 | .ok b H'=>wpAny (model cx.prog cx.w) A t (fun a s'=>∃ ρ',Full ρ s.heap ρ' s'.heap/\Rel H' ρ' s'/\(V b a).P ρ' s'.heap) (fun _ _=>False) s
 | .exc c H'=>wpAny (model cx.prog cx.w) A t (fun _ _=>False) (fun e s'=>∃ ρ',Full ρ s.heap ρ' s'.heap/\Rel H' ρ' s'/\Flying ρ' s.heap s'.heap c e) s
noncomputable def Sim{α β:Type}(A:Around)(P:Amb)(t:Sem α)(m:M β)(V:β->α->Amb):Prop :=
 ∀ (H:Hp) (ρ:Rho) (s:Shared),Rel H ρ s->P.P ρ s.heap->A8 A (m H) t V ρ s
section
variable{α β γ δ:Type}{A:Around}{P:Amb}{t:Sem α}{m:M β}{V:β->α->Amb}
theorem A8.bind{f:α->Sem γ}{g:β->M δ}{W:δ->γ->Amb}{ρ:Rho}{s:Shared}{H:Hp}(x:A8 A (m H) t V ρ s)
 (y:∀ b a H' ρ' s',m H=.ok b H'->Full ρ s.heap ρ' s'.heap->Rel H' ρ' s'->(V b a).P ρ' s'.heap->A8 A (g b H') (f a) W ρ' s') :
 A8 A (m.bnd g H) (t>>=f) W ρ s:=by
 cases e:m H with
 | bad=>rw [C9 e];trivial
 | exc c H' =>
  rw [E4 e]
  rw [e] at x
  exact zB (zE x (fun _ _ q=>q.elim) fun _ _ q=>q)
 | ok b H' =>
  rw [Du e]
  rw [e] at x
  have y':=y b
  cases e2:g b H' with
  | bad=>trivial
  | exc c H'' =>
   refine zB (zE x (fun a s' ⟨ρ',F,R,v⟩=>?_) fun _ _ q=>q.elim)
   have z:=y b a H' ρ' s' e F R v
   rw [e2] at z
   exact zE z (fun _ _ q=>q) fun e s'' ⟨ρ'',F',R',fl⟩=>⟨ρ'',F.trans F',R',fl.older F.live⟩
  | ok d H'' =>
   refine zB (zE x (fun a s' ⟨ρ',F,R,v⟩=>?_) fun _ _ q=>q.elim)
   have z:=y b a H' ρ' s' e F R v
   rw [e2] at z
   exact zE z (fun a' s'' ⟨ρ'',F',R',w⟩=>⟨ρ'',F.trans F',R',w⟩) fun _ _ q=>q.elim
theorem Sim.bind{f:α->Sem γ}{g:β->M δ}{W:δ->γ->Amb}(x:Sim A P t m V)(y:∀ b a,Sim A (P.and (V b a)) (f a) (g b) W):Sim A P (t>>=f) (m.bnd g) W :=
 fun H ρ s R p=>A8.bind (x H ρ s R p) fun b a H' ρ' s' _ F R' v=>y b a H' ρ' s' R' ⟨P.st _ _ _ _ p F,v⟩
noncomputable def Gn{α β:Type}(r:Res β)(K:(α->Shared->Prop)->(Value->Shared->Prop)->Shared->Prop)(V:β->α->Amb)(ρ:Rho)(s:Shared):Prop :=
 match r with
 | .bad=>True
 | .ok b H'=>K (fun a s'=>∃ ρ',Full ρ s.heap ρ' s'.heap/\Rel H' ρ' s'/\(V b a).P ρ' s'.heap) (fun _ _=>False) s
 | .exc c H'=>K (fun _ _=>False) (fun e s'=>∃ ρ',Full ρ s.heap ρ' s'.heap/\Rel H' ρ' s'/\Flying ρ' s.heap s'.heap c e) s
theorem Gn.of{r:Res β}{ρ:Rho}{s:Shared}(x:A8 A r t V ρ s):Gn r (fun Q E s=>wpAny (model cx.prog cx.w) A t Q E s) V ρ s:=x
noncomputable def R6{α:Type}(K:(α->Shared->Prop)->(Value->Shared->Prop)->Shared->Prop):Prop :=
 ∀ Q E Q' E' s,K Q E s->(∀ a s,Q a s->Q' a s)->(∀ e s,E e s->E' e s)->K Q' E' s
theorem A8.bindK{g:β->M δ}{W:δ->γ->Amb}{ρ:Rho}{s:Shared}{H:Hp}{K:α->(γ->Shared->Prop)->(Value->Shared->Prop)->Shared->Prop}{K':(γ->Shared->Prop)->(Value->Shared->Prop)->Shared->Prop}(x:A8 A (m H) t V ρ s)
 (y:∀ b a H' ρ' s',m H=.ok b H'->Full ρ s.heap ρ' s'.heap->Rel H' ρ' s'->(V b a).P ρ' s'.heap->Gn (g b H') (K a) W ρ' s')
 (mk:∀ a,R6 (K a))
 (k:∀ Q E,wpAny (model cx.prog cx.w) A t (fun a s'=>K a Q E s') E s->K' Q E s) :
 Gn (m.bnd g H) K' W ρ s:=by
 cases e:m H with
 | bad=>rw [C9 e];trivial
 | exc c H' =>
  rw [E4 e]
  rw [e] at x
  exact k _ _ (zE x (fun _ _ q=>q.elim) fun _ _ q=>q)
 | ok b H' =>
  rw [Du e]
  rw [e] at x
  cases e2:g b H' with
  | bad=>trivial
  | exc c H'' =>
   refine k _ _ (zE x (fun a s' ⟨ρ',F,R,v⟩=>?_) fun _ _ q=>q.elim)
   have z:=y b a H' ρ' s' e F R v
   rw [e2] at z
   exact mk a _ _ _ _ _ z (fun _ _ q=>q) fun e s'' ⟨ρ'',F',R',fl⟩=>⟨ρ'',F.trans F',R',fl.older F.live⟩
  | ok d H'' =>
   refine k _ _ (zE x (fun a s' ⟨ρ',F,R,v⟩=>?_) fun _ _ q=>q.elim)
   have z:=y b a H' ρ' s' e F R v
   rw [e2] at z
   exact mk a _ _ _ _ _ z (fun a' s'' ⟨ρ'',F',R',w⟩=>⟨ρ'',F.trans F',R',w⟩) fun _ _ q=>q.elim
theorem Gn.lookK{ρ:Rho}{s:Shared}{H:Hp}{f:Hp->Option β}{g:β->M δ}{W:δ->γ->Amb}{K:(γ->Shared->Prop)->(Value->Shared->Prop)->Shared->Prop}(y:∀ b,f H=some b->Gn (g b H) K W ρ s):Gn ((M.look f).bnd g H) K W ρ s:=by
 cases e:f H with
 | none=>rw [C9 (show M.look f H=.bad by unfold M.look;rw [e])];trivial
 | some b=>rw [Du (show M.look f H=.ok b H by unfold M.look;rw [e])];exact y b e
theorem Gn.mono{r:Res β}{ρ:Rho}{s:Shared}{K K':(α->Shared->Prop)->(Value->Shared->Prop)->Shared->Prop}(x:Gn r K V ρ s)(k:∀ Q E,K Q E s->K' Q E s):Gn r K' V ρ s:=by
 cases r with
 | bad=>trivial
 | exc c H'=>exact k _ _ x
 | ok b H'=>exact k _ _ x
theorem Sim.pre{t':Sem α}(x:Sim A P t m V)(k:∀ (Q:α->Shared->Prop) (E:Value->Shared->Prop) (s:Shared),wpAny (model cx.prog cx.w) A t Q E s->wpAny (model cx.prog cx.w) A t' Q E s):Sim A P t' m V:=by
 intro H ρ s R p
 have z:=x H ρ s R p
 cases e:m H with
 | bad=>trivial
 | exc c H'=>rw [e] at z;exact k _ _ _ z
 | ok b H'=>rw [e] at z;exact k _ _ _ z
theorem Sim.holding{vs:List Value}(x:Sim A P t m V):Sim A P (holding vs t) m V:=x.pre fun _ _ _ h=>wpAny_holding h
theorem Sim.stand{pos:Pos}{k:Unit->Sem α}(x:Sim A P (k ()) m V):Sim A P (standAt pos>>=k) m V:=x.pre fun _ _ _ h=>zB (wpAny_standAt h)
theorem Sim.weak{P':Amb}(x:Sim A P t m V)(k:∀ ρ h,P'.P ρ h->P.P ρ h):Sim A P' t m V:=fun H ρ s R p=>x H ρ s R (k _ _ p)
theorem Sim.ret{a:α}{b:β}(k:∀ ρ h,P.P ρ h->(V b a).P ρ h):Sim A P (pure a) (M.ret b) V :=
 fun H ρ s R p=>zH ⟨ρ,Full.refl _ _,R,k _ _ p⟩
theorem Sim.bad:Sim A P t (M.bad:M β) V:=fun _ _ _ _ _=>trivial
theorem A8.post{W:β->α->Amb}{ρ:Rho}{s:Shared}{r:Res β}(x:A8 A r t V ρ s)(k:∀ b a ρ h,(V b a).P ρ h->(W b a).P ρ h):A8 A r t W ρ s:=by
 cases r with
 | bad=>trivial
 | exc c H'=>exact x
 | ok b H'=>exact zE x (fun a s' ⟨ρ',F,R,v⟩=>⟨ρ',F,R,k _ _ _ _ v⟩) fun _ _ q=>q
theorem Sim.post{W:β->α->Amb}(x:Sim A P t m V)(k:∀ b a ρ h,(V b a).P ρ h->(W b a).P ρ h):Sim A P t m W:=fun H ρ s R p=>(x H ρ s R p).post k
theorem Sim.look{f:Hp->Option β}(k:∀ (H:Hp) (ρ:Rho) (s:Shared) (b:β),Rel H ρ s->P.P ρ s.heap->f H=some b ->
 ∀ (Q:α->Shared->Prop) (E:Value->Shared->Prop),(∀ a tk,(V b a).P ρ s.heap->Q a { s with toks:=tk })->wpAny (model cx.prog cx.w) A t Q E s):Sim A P t (M.look f) V:=by
 intro H ρ s R p
 show A8 A (match f H with | some a=>Res.ok a H | none=>Res.bad) t V ρ s
 cases e:f H with
 | none=>trivial
 | some b=>exact k H ρ s b R p e _ _ fun a tk v=>⟨ρ,Full.refl _ _,R.toks tk,v⟩
end
noncomputable def Xs(env:Env)(h:Heap)(y:Str)(v:Value):Prop :=
 (env.kindOf y=some .local/\∃ m,h.Ns env.locals m/\m y=some v) \/
 ((env.kindOf y=some .cell\/env.kindOf y=some .free)/\∃ c,env.cells.lookup y=some c/\h.IsCell c (some v))
noncomputable def Afh:NameKind->Option NameKind->Prop
 | .local,k=>k=some .local
 | .cell,k=>k=some .cell
 | .free,k=>k=some .free\/k=some .cell
 | .globalImplicit,k=>k=some .globalImplicit
 | _,_=>True
structure EnvSt(env:Env)(sc:Scope)(ρ:Rho)(h:Heap):Prop where
 fn:env.scope.kind=.function
 glob:env.globals=mainGlobals
 blt:env.builtins=builtinsNs
 kinds:∀ y k,sc.names.lookup y=some k->Afh k (env.kindOf y)
 loc:∃ m,h.Ns env.locals m
 locN:¬Av ρ env.locals
 locB:cx.h₀.get? env.locals=none
 cells:∀ y c,env.cells.lookup y=some c->(∃ v,h.IsCell c v)/\¬Av ρ c/\cx.h₀.get? c=none
 hasCell:∀ y,sc.names.lookup y=some .cell\/sc.names.lookup y=some .free->∃ c,env.cells.lookup y=some c
 apart:∀ y z c,env.cells.lookup y=some c->env.cells.lookup z=some c->y=z
structure EnvOk(env:Env)(sc:Scope)(ns:List (Option Str))(Γ:Env')(ρ:Rho)(h:Heap):Prop where
 st:EnvSt env sc ρ h
 len:Γ.length=ns.length
 vals:∀ (i:Nat) (y:Str) (mv:Val),ns[i]?=some (some y)->Γ[i]?=some (some mv)->∃ v,Xs env h y v/\VR ρ h mv v
theorem Bh{h h':Heap}{a:Addr}{m:Str->Option Value}(n:h.Ns a m)(k:∀ o,h.get? a=some o->∃ o',h'.get? a=some o'/\o'.data=o.data):h'.Ns a m:=by
 refine ex3 n fun o es ep zz=>Ap zz fun e d r=>?_
 refine ex1 (k o e) fun o' zz=>Ac zz fun e' d'=>?_
 exact ⟨o',es,ep,e',d'.trans d,r⟩
theorem Full.data{ρ ρ':Rho}{h h':Heap}(F:Full ρ h ρ' h'){a:Addr}(n:¬Av ρ a):∀ o,h.get? a=some o->∃ o',h'.get? a=some o'/\o'.data=o.data:=fun o e=>by
 refine ex1 (F.keep a o e n) fun o' zz=>Ac zz fun e' u=>?_
 exact ⟨o',e',u.data⟩
theorem Bj{h h':Heap}{c:Addr}{v:Option Value}(x:h.IsCell c v)(k:∀ o,h.get? c=some o->∃ o',h'.get? c=some o'/\o'.data=o.data):h'.IsCell c v:=by
 refine ex1 x fun o zz=>Ac zz fun e d=>?_
 refine ex1 (k o e) fun o' zz=>Ac zz fun e' d'=>?_
 exact ⟨o',e',d'.trans d⟩
theorem EnvSt.full{env:Env}{sc:Scope}{ρ ρ':Rho}{h h':Heap}(x:EnvSt env sc ρ h)(F:Full ρ h ρ' h'):EnvSt env sc ρ' h':=by
 refine Ae fun G kG=>?_
 obtain ⟨m,hm⟩:=x.loc
 refine ex3 (id hm) fun o es ep zz=>Ap zz fun e d r=>?_
 refine kG ?_
 refine ⟨x.fn,x.glob,x.blt,x.kinds,⟨m,Bh hm (F.data x.locN)⟩,F.grow.not x.locN e,x.locB,fun y c hc=>?_,x.hasCell,x.apart⟩
 refine Ae fun G kG=>?_
 refine Ap (x.cells y c hc) fun zn0 n b=>?_;obtain ⟨v,hv⟩:=zn0
 refine ex1 (id hv) fun o zz=>Ac zz fun e _=>?_
 refine kG ?_
 exact ⟨⟨v,Bj hv (F.data n)⟩,F.grow.not n e,b⟩
theorem Xs.full{env:Env}{sc:Scope}{ρ ρ':Rho}{h h':Heap}{y:Str}{v:Value}(x:EnvSt env sc ρ h)(F:Full ρ h ρ' h')(q:Xs env h y v):Xs env h' y v:=by
 rcases q with ⟨k,m,hm,e⟩ | ⟨k,c,hc,e⟩
 · exact .inl ⟨k,m,Bh hm (F.data x.locN),e⟩
 · exact .inr ⟨k,c,hc,Bj e (F.data (x.cells y c hc).2.1)⟩
theorem EnvOk.full{env:Env}{sc:Scope}{ns:List (Option Str)}{Γ:Env'}{ρ ρ':Rho}{h h':Heap}(x:EnvOk env sc ns Γ ρ h)(F:Full ρ h ρ' h'):EnvOk env sc ns Γ ρ' h' :=
 ⟨x.st.full F,x.len,fun i y mv hi hm=>by
  refine ex1 (x.vals i y mv hi hm) fun v zz=>Ac zz fun hv r=>?_
  exact ⟨v,hv.full x.st F,r.step F.step⟩⟩
noncomputable def Amb.env(env:Env)(sc:Scope)(ns:List (Option Str))(Γ:Env'):Amb:=⟨fun ρ h=>EnvOk env sc ns Γ ρ h,fun _ _ _ _ x F=>x.full F⟩
noncomputable def Aw(l:List Env)(ρ:Rho)(h:Heap):Prop :=
 ∀ env∈l,env.scope.kind≠.module/\∃ L o,env.frame=some L/\cx.h₀.get? L=none/\h.get? L=some o/\(∃ es n,o.data=.dict es n)/\¬Av ρ L
theorem Aw.full{l:List Env}{ρ ρ':Rho}{h h':Heap}(x:Aw l ρ h)(F:Full ρ h ρ' h'):Aw l ρ' h':=fun env he=>by
 refine Ae fun G kG=>?_
 refine Ac (x env he) fun k zz=>ex2 zz fun L o zz=>Ep zz fun h1 h2 h3 h5 h6=>?_
 refine ex1 (F.keep L o h3 h6) fun o' zz=>Ac zz fun e' u=>?_
 refine kG ?_
 exact ⟨k,L,o',h1,h2,e',by rw [u.data];exact h5,F.grow.not h6 h3⟩
noncomputable def Amb.frames(l:List Env):Amb:=⟨fun ρ h=>Aw l ρ h,fun _ _ _ _ x F=>x.full F⟩
structure RoomF(A:Around)(d:Nat):Prop where
 hh:A.handled=none
 depth:A.depth+5 * d+147 < recursionLimit
 units:A.units+20 * d+90 < cLine
structure RoomQ(A:Around)(d:Nat):Prop where
 depth:A.depth+5 * d+147 < recursionLimit
 units:A.units+20 * d+90 < cLine
theorem RoomF.q{A:Around}{d:Nat}(r:RoomF A d):RoomQ A d:=⟨r.depth,r.units⟩
theorem Room.toF{A:Around}{d:Nat}(r:Room A d):RoomF A d:=⟨r.hh,by have:=r.depth;exact o2 this,by have:=r.units;exact o3 this⟩
theorem Room.in1{A:Around}{d:Nat}(r:Room A (d+1)):Room A.in1 d:=⟨r.hh,by have:=r.depth;simp only [Around.in1_depth];exact o4 this,by have:=r.units;simp only [Around.in1_units];exact o5 this⟩
section
variable{α β:Type}{A:Around}{P:Amb}{H:Hp}{ρ:Rho}{s:Shared}{t:Sem α}{V:β->α->Amb}
theorem As{b:β}(R:Rel H ρ s)(k:∀ (Q:α->Shared->Prop) (E:Value->Shared->Prop),(∀ a tk,(V b a).P ρ s.heap->Q a { s with toks:=tk })->wpAny (model cx.prog cx.w) A t Q E s):A8 A (.ok b H) t V ρ s :=
 k _ _ fun a tk v=>⟨ρ,Full.refl _ _,R.toks tk,v⟩
theorem Rel.newList{xs:List Val}{vs:List Value}(tk:Nat)(R:Rel H ρ s)(r:VRs ρ s.heap xs vs)(z:xs.length<=sizeLine) :
 ∃ ρ',Full ρ s.heap ρ' (s.heap.push (Bp vs 0))/\Rel (H++[.list xs]) ρ' { s with heap:=s.heap.push (Bp vs 0),toks:=tk }/\VR ρ' (s.heap.push (Bp vs 0)) (.loc H.length) (.ref s.heap.objs.size):=by
 have kp:∀ b o,s.heap.get? b=some o->(s.heap.push (Bp vs 0)).get? b=some o:=fun b o e=>Heap.get?_push_of_some _ e
 obtain ⟨F,R'⟩:=R.alloc (tk:=tk) (o:=.list xs) (p:=(s.heap.objs.size,s.heap.objs.size)) kp ⟨Am _,Am _⟩
  (.list (n:=0) (Heap.get?_push_size _ rfl) (r.step (Full.alloc kp ⟨Am _,Am _⟩).step) z)
 refine ⟨_,F,R',?_⟩
 rw [R.len]
 exact VR.loc (p:=(s.heap.objs.size,s.heap.objs.size)) (by rw [List.getElem?_append_right (zI _)];simp)
end
theorem Ed:lid=sizeLine:=by skip;rfl
section
variable{A:Around}{P:Amb}{a b:Val}{v w:Value}
theorem Qi{x:Int}(h:small x=true):Builtin.Int.intBits x<=64:=by
 unfold small at h
 simp only [Bool.and_eq_true,decide_eq_true_eq] at h
 exact intBits_le_64 h.1 h.2
theorem Rel.listAt{H:Hp}{ρ:Rho}{s:Shared}(R:Rel H ρ s){l:Nat}{xs:List Val}{p:Addr × Addr}(hH:H[l]?=some (.list xs))(hρ:ρ[l]?=some p) :
 ∃ vs n,p.2=p.1/\s.heap.get? p.1=some (Bp vs n)/\VRs ρ s.heap xs vs/\xs.length<=sizeLine:=by
 have:=R.objs l _ p hH hρ
 generalize ho:HObj.list xs=o at this
 cases this with
 | list e r z=>cases ho;exact ⟨_,_,rfl,e,r,z⟩
 | dict _ _ _=>cases ho
 | inst _ _ _ _ _ _ _ _ _ _=>cases ho
 | hid _=>cases ho
theorem VR.int_inv{ρ:Rho}{h:Heap}{i:Int}(x:VR ρ h (.int i) v):∃ t,v=.int i t:=by cases x;exact ⟨_,rfl⟩
theorem VR.str_inv{ρ:Rho}{h:Heap}{i:Str}(x:VR ρ h (.str i) v):∃ t,v=.str i t/\i.length<=sizeLine:=by cases x;exact ⟨_,rfl,by assumption⟩
theorem VR.none_inv{ρ:Rho}{h:Heap}(x:VR ρ h .none v):v=.none:=by cases x;rfl
theorem VR.loc_inv{ρ:Rho}{h:Heap}{l:Nat}(x:VR ρ h (.loc l) v):∃ p,ρ[l]?=some p/\v=.ref p.1:=by cases x;exact ⟨_,by assumption,rfl⟩
theorem VRs.nil_inv{ρ:Rho}{h:Heap}{vs:List Value}(x:VRs ρ h [] vs):vs=[]:=by cases x;rfl
theorem VRs.cons_inv{ρ:Rho}{h:Heap}{m:Val}{ms:List Val}{vs:List Value}(x:VRs ρ h (m :: ms) vs):∃ v vs',vs=v :: vs'/\VR ρ h m v/\VRs ρ h ms vs':=by cases x;exact ⟨_,_,rfl,by assumption,by assumption⟩
theorem VRs.one_inv{ρ:Rho}{h:Heap}{m:Val}{vs:List Value}(x:VRs ρ h [m] vs):∃ v,vs=[v]/\VR ρ h m v:=by
 refine ex2 x.cons_inv fun v vs' zz=>Ap zz fun zr2 y z=>?_;subst zr2
 exact ⟨v,by rw [z.nil_inv],y⟩
theorem VRs.two_inv{ρ:Rho}{h:Heap}{m n:Val}{vs:List Value}(x:VRs ρ h [m,n] vs):∃ v w,vs=[v,w]/\VR ρ h m v/\VR ρ h n w:=by
 refine ex2 x.cons_inv fun v vs' zz=>Ap zz fun zr2 y z=>?_;subst zr2
 refine ex1 z.one_inv fun w zz=>Ac zz fun hr1 u=>?_;refine Eq.symm hr1▸?_
 exact ⟨v,w,rfl,y,u⟩
theorem Ab9{op:BOp}{o:Operator}(ho:Agz op o=true)(h1:∀ ρ h,P.P ρ h->VR ρ h a v)(h2:∀ ρ h,P.P ρ h->VR ρ h b w):Sim A P (binaryOp o v w) (Aer op a b) (Amb.vr):=by
 intro H ρ s R p
 have x1:=h1 _ _ p
 have x2:=h2 _ _ p
 clear h1 h2 p
 have ho':bOp op=o:=of_decide_eq_true ho
 subst ho'
 clear ho
 cases op with
 | add =>
  cases a with
  | int i =>
   cases b with
   | int j =>
    obtain ⟨_,rfl⟩:=x1.int_inv
    obtain ⟨_,rfl⟩:=x2.int_inv
    exact As R fun Q E k=>PyProof.Rows.add_int (k _ _ (.int _ _))
   | _=>trivial
  | str x =>
   cases b with
   | str y =>
    refine ex1 x1.str_inv fun _ zz=>Ac zz fun zr1 _=>?_;subst zr1
    refine ex1 x2.str_inv fun _ zz=>Ac zz fun hr3 _=>?_;refine Eq.symm hr3▸?_
    show A8 A ((if x.length+y.length<=lid then M.ret (Val.str (x++y)) else M.bad) H) _ _ ρ s
    by_cases q:x.length+y.length<=lid
    · rw [if_pos q]
      rw [Ed] at q
      exact As R fun Q E k=>PyProof.Rows.add_str (fun t' tk=>k _ _ (.str _ _ (by rw [strLen_append];exact q))) q
    · rw [if_neg q];trivial
   | _=>trivial
  | _=>trivial
 | sub =>
  cases a with
  | int i =>
   cases b with
   | int j =>
    obtain ⟨_,rfl⟩:=x1.int_inv
    obtain ⟨_,rfl⟩:=x2.int_inv
    exact As R fun Q E k=>PyProof.Rows.sub_int (k _ _ (.int _ _))
   | _=>trivial
  | _=>trivial
 | mul =>
  cases a with
  | int i =>
   cases b with
   | int j =>
    obtain ⟨_,rfl⟩:=x1.int_inv
    obtain ⟨_,rfl⟩:=x2.int_inv
    show A8 A ((if (small i || small j)=true then M.ret (Val.int (i * j)) else M.bad) H) _ _ ρ s
    by_cases q:(small i || small j)=true
    · rw [if_pos q]
      refine As R fun Q E k=>PyProof.Rows.mul_int (k _ _ (.int _ _)) ?_
      rcases (Bool.or_eq_true _ _).mp q with q | q
      · exact IntMulOk.of_left (Qi q)
      · exact IntMulOk.of_right (Qi q)
    · rw [if_neg q];trivial
   | _=>trivial
  | _=>trivial
 | fdiv =>
  cases a with
  | int i =>
   cases b with
   | int j =>
    obtain ⟨_,rfl⟩:=x1.int_inv
    obtain ⟨_,rfl⟩:=x2.int_inv
    show A8 A ((if j=0\/1073741824<=j.natAbs then M.bad else M.ret (Val.int (Int.fdiv i j))) H) _ _ ρ s
    by_cases q:j=0\/1073741824<=j.natAbs
    · rw [if_pos q];trivial
    · rw [if_neg q]
      exact As R fun Q E k=>PyProof.Rows.floordiv_int (fun e=>q (.inl e)) (k _ _ (.int _ _)) (.inl (PyProof.noPylong_small (by exact o6 q)))
   | _=>trivial
  | _=>trivial
 | mod =>
  cases a with
  | int i =>
   cases b with
   | int j =>
    obtain ⟨_,rfl⟩:=x1.int_inv
    obtain ⟨_,rfl⟩:=x2.int_inv
    show A8 A ((if j=0 then M.bad else M.ret (Val.int (Int.fmod i j))) H) _ _ ρ s
    by_cases q:j=0
    · rw [if_pos q];trivial
    · rw [if_neg q]
      exact As R fun Q E k=>PyProof.Rows.mod_int' q (k _ _ (.int _ _))
   | _=>trivial
  | _=>trivial
end
structure FnOk(a:Addr)(f:MFun):Prop where
 is:∃ o fd body ns,cx.h₀.get? a=some o/\o.cls=.type "function"/\o.data=.func fd/\cx.h₀.CodeRec fd.code fd.qualname/\fd.body=.stmts body/\fd.closure=[]/\fd.globals=mainGlobals/\fd.builtins=builtinsNs /\
  fd.defaults=.none/\fd.kwdefaults=.none/\ckF N f ns fd.params body fd.scope=true
structure ClsOk(c:Nat)(C:Addr):Prop where
 is:∃ nm q Nn bs sn sub col dd k0 k1 k2 k3 k5 mN,cx.h₀.get? C=some (excClassObj nm q C Nn bs [.type "object"] true sn sub false col dd k0 k1 k2 k3 k5 "object.__new__")/\cx.h₀.Ns Nn mN /\
  mN "__getattribute__"=none/\mN "__getattr__"=none/\mN "__setattr__"=none /\
  (∀ (n:Nat) (y:Str),cx.attrs[n]?=some y->mN y=none/\typeLookup (.type "object") y=pure none) /\
  (∀ (y:Str) (m k:Nat),N.meths.lookup y=some m->cx.T.meth c m=some k->∃ fa o fd,cx.fns[k]?=some fa/\mN y=some (.ref fa)/\cx.h₀.get? fa=some o/\o.cls=.type "function"/\o.data=.func fd/\(∀ n:Nat,cx.attrs[n]?≠some y)/\∃ r,typeLookup (.type "object") y=pure r)
structure ClsBase:Prop where
 attr:∀ (y:Str) (n:Nat),N.attrs.lookup y=some n->cx.attrs[n]?=some y
 inj:∀ (i j:Nat) (y:Str),cx.attrs[i]?=some y->cx.attrs[j]?=some y->i=j
 few:cx.attrs.length<=sizeLine
 init:N.meths.lookup ("__init__":Str)=some 0
 ref:∀ (c:Nat) (v:Value),cx.cls[c]?=some v->(cx.T.meth c 0).isSome=true->∃ C,v=.ref C
 cls:∀ (c:Nat) (C:Addr),cx.cls[c]?=some (.ref C)->(cx.T.meth c 0).isSome=true->ClsOk c C
structure ExcOk(c:Nat)(C:Addr):Prop where
 is:∃ nm q Nn bs bm hdct sn sub ab col dd k0 k1 k2 k3 k5 mN,cx.h₀.get? C=some (excClassObj nm q C Nn bs bm hdct sn sub ab col dd k0 k1 k2 k3 k5 "ValueError.__new__")/\cx.h₀.Ns Nn mN/\mN "__init__"=none/\OwnTail cx.h₀ Ah0 bm /\
  ∀ (d:Nat) (D:Value),cx.cls[d]?=some D->cx.T.sub c d=(Value.ref C :: bm).contains D
 isi:∃ K:PySem.W.Frag,K.In cx.h₀/\ExcK K C/\∀ (d:Nat) (D:Value),cx.cls[d]?=some D->Qe K D=true/\PySem.W.mroIn K C D=some (cx.T.sub c d)
structure Base:Prop where
 ns:∃ mg mb,cx.h₀.Ns mainGlobals mg/\cx.h₀.Ns builtinsNs mb /\
  (∀ x k,N.funs.lookup x=some k->∃ a,cx.fns[k]?=some a/\mg x=some (.ref a)) /\
  (∀ x k,N.globs.lookup x=some k->∃ v val,cx.T.globs[k]?=some v/\mg x=some val/\∀ ρ h,VR ρ h v val) /\
  (∀ x c,N.clss.lookup x=some c->∃ C,cx.cls[c]?=some C/\(mg x=some C\/(mg x=none/\mb x=some C))) /\
  (∀ p∈Gq,mg p.1=none/\mb p.1=some p.2)
 lim:cx.h₀.NoLimit
 fns:∀ (k:Nat) (a:Addr) (f:MFun),cx.fns[k]?=some a->cx.T.funs[k]?=some f->FnOk a f
 cls:ClsBase
 exc:∀ c:Nat,cx.T.isExc c=true->∃ C,cx.cls[c]?=some (.ref C)/\ExcOk c C
theorem Cq{l:List (Str × Nat)}{x:Str}{k:Nat}(h:Dy l x k=true):l.lookup x=some k:=of_decide_eq_true h
theorem T8{sc:Scope}{x:Str}(h:Br sc x=true):sc.names.lookup x=some .globalImplicit/\(x == ("__debug__":Str))=false:=⟨of_decide_eq_true (an1 h),not_not (an2 h)⟩
theorem Xu{sc:Scope}{ns:List (Option Str)}{i:Nat}{x:Str}(h:Xr sc ns i x=true) :
 (sc.names.lookup x=some .local\/sc.names.lookup x=some .cell\/sc.names.lookup x=some .free)/\ns[i]?=some (some x)/\(x == ("__debug__":Str))=false/\(x == ("__classdict__":Str))=false :=
 ⟨((Bool.or_eq_true _ _).mp (an1 h)).imp of_decide_eq_true Tt,of_decide_eq_true (an1 (an2 h)),not_not (an1 (an2 (an2 h))),not_not (an2 (an2 (an2 h)))⟩
section
variable{A:Around}{env:Env}{sc:Scope}{ns:List (Option Str)}{Γ:Env'}
theorem T9{i:Nat}{x:Str}{pos:Pos}(hv:Xr sc ns i x=true)(Φ:Funs):Sim A (Amb.env env sc ns Γ) (eval (.Name x pos) env) (Aj cx.T Φ (.var i) Γ) (Amb.vr):=by
 refine Ae fun G kG=>?_
 refine Cl (Xu hv) fun _ hn hd hc=>?_
 refine kG ?_
 intro H ρ s R p
 rw [Aev]
 cases e:Γ[i]? with
 | none=>trivial
 | some o =>
  cases o with
  | none=>trivial
  | some mv =>
   refine ex1 (p.vals i x mv hn e) fun v zz=>Ac zz fun q r=>?_
   refine As R fun Q E k=>?_
   have k':=k v s.toks r
   rcases q with ⟨kd,m,hm,hv⟩ | ⟨kd,c,hc',hv⟩
   · exact wpAny_Name (wpAny_loadName_local p.st.fn kd hm hv k') hd
   · rcases kd with kd | kd
     · exact wpAny_Name (wpAny_loadName_cell p.st.fn kd hc' hv k') hd
     · exact wpAny_Name (wpAny_loadName_free p.st.fn kd hc' hv k' hc) hd
theorem wp_glob{ρ:Rho}{s:Shared}{H:Hp}{x:Str}{pos:Pos}{mg mb:Str->Option Value}{v:Value}{Q:Value->Shared->Prop}{E:Value->Shared->Prop}(R:Rel H ρ s)(p:EnvSt env sc ρ s.heap)(hg:Br sc x=true)
 (ng:cx.h₀.Ns mainGlobals mg) (nb:cx.h₀.Ns builtinsNs mb) (hv:mg x=some v\/(mg x=none/\mb x=some v)) (h:Q v s):wpAny (model cx.prog cx.w) A (eval (.Name x pos) env) Q E s:=by
 obtain ⟨h1,h2⟩:=T8 hg
 have kd:env.kindOf x=some .globalImplicit:=p.kinds x _ h1
 have ng':s.heap.Ns env.globals mg:=by rw [p.glob];exact ng.keeps R.base
 have nb':s.heap.Ns env.builtins mb:=by rw [p.blt];exact nb.keeps R.base
 refine Calls.Name_function_global p.fn kd ?_ h2
 rcases hv with hv | ⟨h0,hv⟩
 · exact Calls.loadGlobal_global ng' hv h
 · exact Calls.loadGlobal_builtin ng' h0 nb' hv h
theorem Xv(B:Base){k:Nat}{x:Str}{pos:Pos}(hg:Br sc x=true)(hk:Dy N.globs x k=true)(Φ:Funs):Sim A (Amb.env env sc ns Γ) (eval (.Name x pos) env) (Aj cx.T Φ (.glob k) Γ) (Amb.vr):=by
 refine Ae fun G kG=>?_
 refine ex2 B.ns fun mg mb zz=>Ep zz fun ng nb _ q _=>?_
 refine ex2 (q x k (Cq hk)) fun v val zz=>Ap zz fun e1 e2 r=>?_
 refine kG ?_
 intro H ρ s R p
 rw [Abs,e1]
 exact As R fun Q E k=>wp_glob R p.st hg ng nb (.inl e2) (k _ s.toks (r _ _))
theorem R7{a:Val}{v:Value}{P:Amb}(h:∀ ρ h,P.P ρ h->VR ρ h a v):Sim A P (truthy v) (C3 a) (fun b b'=>Amb.prop (b'=b)):=by
 intro H ρ s R p
 have x:=h _ _ p
 cases x with
 | bool b=>exact As R fun Q E k=>wpAny_truthy_bool (k _ s.toks rfl)
 | _=>trivial
theorem Aca{a:Val}{v:Value}{P:Amb}(h:∀ ρ h,P.P ρ h->VR ρ h a v):Sim A P (unaryOp .USub v) (match a with | .int i=>M.ret (Val.int (-i)) | _=>.bad) (Amb.vr):=by
 intro H ρ s R p
 have x:=h _ _ p
 cases x with
 | int i t=>exact As R fun Q E k=>PyProof.Rows.neg_int (k _ _ (.int _ _))
 | _=>trivial
theorem Acb{a:Val}{v:Value}{P:Amb}(h:∀ ρ h,P.P ρ h->VR ρ h a v):Sim A P (unaryOp .Not v) ((C3 a).bnd fun b=>M.ret (Val.bool (!b))) (Amb.vr):=by
 intro H ρ s R p
 have x:=h _ _ p
 cases x with
 | bool b=>exact As R fun Q E k=>not_value (wpAny_truthy_bool (k _ s.toks (.bool _)))
 | _=>trivial
end
section
variable{H:Hp}{ρ:Rho}{s:Shared}
theorem Ie{n:Nat}{f:Val->Option PyData}(ih:∀ {m:Val} {v:Value} {d:PyData},VR ρ s.heap m v->f m=some d->(∃ as,Reads s.heap v d as)/\d.canLay0=true/\d.depth<=n) :
 ∀ {xs:List Val} {vs:List Value} {ds:List PyData},VRs ρ s.heap xs vs->Jd f xs=some ds->(∃ as,ReadsAll s.heap vs ds as)/\PyData.canLayAll0 ds=true/\PyData.depthAll ds<=n:=by
 intro xs
 induction xs with
 | nil =>
  intro vs ds r h
  cases r
  cases h
  exact ⟨⟨_,.nil⟩,rfl,Nat.zero_le _⟩
 | cons x xs hi =>
  intro vs ds r h
  cases r with
  | cons a r =>
   refine Tp (C:=fun ds=>(∃ as,ReadsAll s.heap _ ds as)/\PyData.canLayAll0 ds=true/\PyData.depthAll ds<=n) h fun d ds' e1 e2=>?_
   refine Ae fun G kG=>?_
   refine Ap (ih a e1) fun zn0 h2 h3=>?_;obtain ⟨as,h1⟩:=zn0
   refine Ap (hi r e2) fun zn0 g2 g3=>?_;obtain ⟨bs,g1⟩:=zn0
   refine kG ?_
   exact ⟨⟨_,.cons h1 g1⟩,(Bool.and_eq_true _ _).mpr ⟨h2,g2⟩,Nat.max_le.mpr ⟨h3,g3⟩⟩
theorem L9{α:Type}{p:Prop}[Decidable p]{x y:α}(h:(if p then some x else none)=some y):p/\x=y:=by
 by_cases q:p
 · rw [if_pos q] at h;exact ⟨q,Option.some.inj h⟩
 · rw [if_neg q] at h;exact Ad h
theorem Et{n:Nat}{m:Val}{v:Value}{d:PyData}(x:VR ρ s.heap m v)(h:Tl m=some d):(∃ as,Reads s.heap v d as)/\d.canLay0=true/\d.depth<=n:=by
 cases x with
 | none=>cases h;exact ⟨⟨_,.none⟩,rfl,Nat.zero_le _⟩
 | bool b=>cases h;exact ⟨⟨_,.bool b⟩,rfl,Nat.zero_le _⟩
 | int i t=>cases h;exact ⟨⟨_,.int i t⟩,rfl,Nat.zero_le _⟩
 | str y t z =>
  obtain ⟨h1,h2⟩:=L9 h
  cases h2;exact ⟨⟨_,.str y t⟩,h1,Nat.zero_le _⟩
 | _=>exact Ad h
theorem Cw(R:Rel H ρ s):∀ (n:Nat) {m:Val} {v:Value} {d:PyData},VR ρ s.heap m v->A6 H n m=some d->(∃ as,Reads s.heap v d as)/\d.canLay0=true/\d.depth<=n:=by
 intro n
 induction n with
 | zero=>exact fun x h=>Et x h
 | succ n ih =>
  intro m v d x h
  cases x with
  | @tup a vs k ms e no z r =>
   refine Ae fun G kG=>?_
   refine ex1 (Option.map_eq_some_iff.mp h) fun ds zz=>Ac zz fun h1 zr2=>?_;subst zr2
   refine Ap (Ie (n:=n) (fun x h=>ih x h) r h1) fun zn0 g2 g3=>?_;obtain ⟨as,g1⟩:=zn0
   refine kG ?_
   exact ⟨⟨_,.tuple e rfl rfl (by simpa using g1)⟩,g2,Nat.succ_le_succ g3⟩
  | @loc l p e =>
   have h:(match H[l]? with | some (.list vs)=>(Jd (A6 H n) vs).map .list | _=>none)=some d:=h
   cases hl:H[l]? with
   | none=>rw [hl] at h;exact Ad h
   | some o =>
    rw [hl] at h
    cases o with
    | list xs =>
     refine Ae fun G kG=>?_
     refine ex1 (Option.map_eq_some_iff.mp h) fun ds zz=>Ac zz fun h1 zr2=>?_;subst zr2
     refine ex2 (R.listAt hl e) fun vs k zz=>Cl zz fun _ g r _=>?_
     refine Ap (Ie (n:=n) (fun x h=>ih x h) r h1) fun zn0 g2 g3=>?_;obtain ⟨as,g1⟩:=zn0
     refine kG ?_
     exact ⟨⟨_,.list g rfl rfl (by simpa using g1)⟩,g2,Nat.succ_le_succ g3⟩
    | _=>exact Ad h
  | none=>exact Et (ρ:=ρ) .none h
  | bool b=>exact Et (ρ:=ρ) (.bool b) h
  | int i t=>exact Et (ρ:=ρ) (.int i t) h
  | str y t z=>exact Et (ρ:=ρ) (.str y t z) h
  | _=>exact Ad h
end
section
variable{A:Around}{P:Amb}{a b:Val}{v w:Value}{H:Hp}{ρ:Rho}{s:Shared}
theorem Hg{d:PyData}(h:d.canLay0=true)(k:d.depth<=Fi):SeqAt.shaped d=true:=by
 unfold SeqAt.shaped;rw [h];exact decide_eq_true (zC k (show 6<=64 by decide))
theorem Ah8(R:Rel H ρ s)(x:VR ρ s.heap a v)(y:VR ρ s.heap b w){r:Bool}(e:Hb H a b=some r)(hu:A.units+100 < cLine){Q:Value->Shared->Prop}{E:Value->Shared->Prop}(k:Q (.bool r) s) :
 wpAny (model cx.prog cx.w) A (compareOp .Eq v w) Q E s:=by
 revert k
 refine Xo (C:=fun r=>Q (.bool r) s->_) e fun d1 d2 e1 e2 k=>?_
 refine Ae fun G kG=>?_
 refine Ap (Cw R Fi x e1) fun zn0 g2 g3=>?_;obtain ⟨as,g1⟩:=zn0
 refine Ap (Cw R Fi y e2) fun zn0 f2 f3=>?_;obtain ⟨bs,f1⟩:=zn0
 refine kG ?_
 exact SeqAt.compareEq_shaped g1 f1 (Hg g2 g3) (Hg f2 f3) (by exact o7 hu) k
theorem Ah9(R:Rel H ρ s)(x:VR ρ s.heap a v)(y:VR ρ s.heap b w){r:Bool}(e:Hb H a b=some r)(hu:A.units+100 < cLine){Q:Value->Shared->Prop}{E:Value->Shared->Prop}(k:Q (.bool (!r)) s) :
 wpAny (model cx.prog cx.w) A (compareOp .NotEq v w) Q E s:=by
 revert k
 refine Xo (C:=fun r=>Q (.bool (!r)) s->_) e fun d1 d2 e1 e2 k=>?_
 refine Ae fun G kG=>?_
 refine Ap (Cw R Fi x e1) fun zn0 g2 g3=>?_;obtain ⟨as,g1⟩:=zn0
 refine Ap (Cw R Fi y e2) fun zn0 f2 f3=>?_;obtain ⟨bs,f1⟩:=zn0
 refine kG ?_
 exact SeqAt.compareNe_shaped g1 f1 (Hg g2 g3) (Hg f2 f3) (by exact o7 hu) k
theorem Nt{r:Bool}(x:VR ρ s.heap a v)(h:isV a .none=some r):r=(v == .none):=by
 cases x with
 | none=>exact (Option.some.inj h).symm
 | _=>exact (Option.some.inj h).symm
theorem Rel.dictAt(R:Rel H ρ s){l:Nat}{es:List (Key × Val)}{p:Addr × Addr}(hH:H[l]?=some (.dict es))(hρ:ρ[l]?=some p) :
 ∃ xs,p.2=p.1/\s.heap.DictOfH (cellKind) p.1 xs/\DRs ρ s.heap es xs/\es.length<=sizeLine:=by
 have:=R.objs l _ p hH hρ
 generalize ho:HObj.dict es=o at this
 cases this with
 | list e r z=>exact nomatch ho
 | dict d r z=>cases ho;exact ⟨_,rfl,d,r,z⟩
 | inst _ _ _ _ _ _ _ _ _ _=>exact nomatch ho
 | hid _=>cases ho
theorem Aak{k:Int}{t:Tok}:(intKind cx.prog cx.w).is k (.int k t)=true:=by simp [intKind,Value.isInt]
theorem Qj{k:Key}(x:VR ρ s.heap a v)(h:Es a=some k):∃ b,v=.ref b/\(cellKind).is s.heap [k.1,k.2] b/\¬Av ρ b:=by
 rw [Aaf h] at x
 cases x with
 | @tup b vs n ms e no z r =>
  refine Ae fun G kG=>?_
  refine ex2 r.two_inv fun u w zz=>Ap zz fun ev r1 r2=>?_
  obtain ⟨t1,e1⟩:=r1.int_inv
  obtain ⟨t2,e2⟩:=r2.int_inv
  refine kG ?_
  exact ⟨b,rfl,⟨_,vs.toArray,n,e,rfl,rfl,ev▸e1▸e2▸.cons Aak (.cons Aak .nil)⟩,no⟩
theorem DRs.atKey{es:List (Key × Val)}{xs:List (List Int × Addr × Value)}(r:DRs ρ s.heap es xs)(k:Key) :
 match Fj es k,atKey xs [k.1,k.2] with
 | some m,some p=>VR ρ s.heap m p.2
 | none,none=>True
 | _,_=>False:=by
 induction r with
 | nil=>simp [Fj,PySem.atKey]
 | @cons k' v' b x es xs a n _ ih =>
  by_cases q:k'=k
  · refine q▸?_
    simp [Fj,PySem.atKey,a]
  · have q':¬([k'.1,k'.2]=[k.1,k.2]):=fun e=>q (by
     simp only [List.cons.injEq,and_true] at e
     exact Prod.ext e.1 e.2)
    have q2:(k == k')=false:=by simpa using fun e:k=k'=>q e.symm
    have e1:Fj ((k',v') :: es) k=Fj es k:=by simp [Fj,List.lookup_cons,q2]
    have e2:PySem.atKey (([k'.1,k'.2],b,x) :: xs) [k.1,k.2]=PySem.atKey xs [k.1,k.2]:=by
     unfold PySem.atKey
     rw [List.find?_cons]
     simp only [decide_eq_false q']
    rw [e1,e2]
    exact ih
theorem DRs.isSome{es:List (Key × Val)}{xs:List (List Int × Addr × Value)}(r:DRs ρ s.heap es xs)(k:Key):(PySem.atKey xs [k.1,k.2]).isSome=(Fj es k).isSome:=by
 have:=r.atKey k
 cases h1:Fj es k <;> cases h2:PySem.atKey xs [k.1,k.2] <;> simp_all
theorem Kq(R:Rel H ρ s){l:Nat}{p:Addr × Addr}(hρ:ρ[l]?=some p):(p.1 == sysModules)=false:=by
 obtain ⟨o,e⟩:=R.sys
 have:=(R.new p (zF hρ)).1
 simpa using fun w:p.1=sysModules=>by rw [w,e] at this;exact nomatch this
theorem Aal(R:Rel H ρ s)(x:VR ρ s.heap a v)(y:VR ρ s.heap b w){r:Bool}(e:inV a b H=some r){C:Value->Value->Bool->Prop}
 (k1:∀ {p d ds as bs},Reads s.heap (.ref p) (.list ds) bs->Reads s.heap v d as->PyData.canLayAll0 ds=true->d.canLay0=true->min (PyData.depthAll ds) d.depth<=6->C v (.ref p) (ds.any fun y=>PyData.eqv y d))
 (k2:∀ {p:Addr} {bb:Addr} {kk:Key} {xs},(cellKind).is s.heap [kk.1,kk.2] bb->(p == sysModules)=false->s.heap.DictOfH (cellKind) p xs->C (.ref bb) (.ref p) (PySem.atKey xs [kk.1,kk.2]).isSome):C v w r:=by
 cases y with
 | @loc l p hp =>
  refine Ahm (C:=C v (.ref p.1)) e (fun ys hl e=>?_) fun es k hl ek=>?_
  · refine ex2 (R.listAt hl hp) fun vs n zz=>Cl zz fun _ g rr _=>?_
    refine Aez (C:=C v (.ref p.1)) e fun d ds e1 e2=>?_
    refine Ae fun G kG=>?_
    refine Ap (Cw R Fi x e1) fun zn0 g2 g3=>?_;obtain ⟨as,g1⟩:=zn0
    refine Ap (Ie (n:=Fi) (fun x h=>Cw R Fi x h) rr e2) fun zn0 f2 f3=>?_;obtain ⟨bs,f1⟩:=zn0
    refine kG ?_
    exact k1 (.list g rfl rfl (by simpa using f1)) g1 f2 g2 (zC (Nat.min_le_right _ _) g3)
  · refine ex1 (R.dictAt hl hp) fun xs zz=>Cl zz fun _ D rr _=>?_
    refine ex1 (Qj x ek) fun bb zz=>Ap zz fun hr0 hk _=>?_;refine Eq.symm hr0▸?_
    exact rr.isSome k▸k2 hk (Kq R hp) D
 | _=>exact Ad e
theorem Aia(R:Rel H ρ s)(x:VR ρ s.heap a v)(y:VR ρ s.heap b w){r:Bool}(e:inV a b H=some r)(hu:A.units+100 < cLine){Q:Value->Shared->Prop}{E:Value->Shared->Prop}(k:∀ tk,Q (.bool r) { s with toks:=tk }) :
 wpAny (model cx.prog cx.w) A (compareOp .In v w) Q E s :=
 Aal (C:=fun v w r=>(∀ tk,Q (.bool r) { s with toks:=tk })->wpAny (model cx.prog cx.w) A (compareOp .In v w) Q E s) R x y e
  (fun f g f2 g2 z k=>SeqAt.in_list_reads f g f2 g2 (zA (zJ z _) (by exact o8 hu)) (k s.toks))
  (fun hk q D k=>wpAny_in_heap (knd:=cellKind) (tupleKind_room_in1 (by exact o9 hu)) hk q D (k _)) k
theorem Xw(R:Rel H ρ s)(x:VR ρ s.heap a v)(y:VR ρ s.heap b w){r:Bool}(e:inV a b H=some r)(hu:A.units+100 < cLine){Q:Value->Shared->Prop}{E:Value->Shared->Prop}(k:∀ tk,Q (.bool (!r)) { s with toks:=tk }) :
 wpAny (model cx.prog cx.w) A (compareOp .NotIn v w) Q E s :=
 Aal (C:=fun v w r=>(∀ tk,Q (.bool (!r)) { s with toks:=tk })->wpAny (model cx.prog cx.w) A (compareOp .NotIn v w) Q E s) R x y e
  (fun f g f2 g2 z k=>SeqAt.notIn_list_reads f g f2 g2 (zA (zJ z _) (by exact o8 hu)) (k s.toks))
  (fun hk q D k=>PyProof.Rows.wpAny_notIn_heap (knd:=cellKind) (tupleKind_room_in1 (by exact o9 hu)) hk q D (k _)) k
theorem Nu{f g:Val->Option PyData}(h:∀ m d,f m=some d->g m=some d):∀ {xs:List Val} {ds:List PyData},Jd f xs=some ds->Jd g xs=some ds
 | [],ds,e=>e
 | x :: xs,ds,e=>by
  refine Tp (C:=fun ds=>Jd g (x :: xs)=some ds) e fun d ds' e1 e2=>?_
  show (match g x,Jd g xs with
   | some d,some ds=>some (d :: ds)
   | _,_=>none)=_
  rw [h _ _ e1,Nu h e2]
theorem Ma:∀ (n:Nat) (m:Val) (d:PyData),A6 [] n m=some d->A6 H n m=some d
 | 0,m,d,e=>by cases m <;> exact e
 | n+1,m,d,e=>by
  cases m with
  | tup vs =>
   refine ex1 (Option.map_eq_some_iff.mp e) fun ds zz=>Ac zz fun e1 e2=>?_
   exact Option.map_eq_some_iff.mpr ⟨ds,Nu (Ma n) e1,e2⟩
  | loc l=>exact Ad e
  | _=>exact e
theorem Qk{r:Bool}(h:Hb [] a b=some r):Hb H a b=some r:=by
 refine Xo (C:=fun r=>Hb H a b=some r) h fun d1 d2 e1 e2=>?_
 delta Hb
 rw [Ma _ _ _ e1,Ma _ _ _ e2]
theorem VR.tup_inv{h:Heap}{ms:List Val}(x:VR ρ h (.tup ms) v):∃ p vs n,v=.ref p/\h.get? p=some (Qh vs n)/\VRs ρ h ms vs:=by cases x;exact ⟨_,_,_,rfl,by assumption,by assumption⟩
theorem Hh(R:Rel H ρ s)(x:VR ρ s.heap a v)(y:VR ρ s.heap b w){r:Bool}(e:Hb H a b=some r)(hu:A.units+10 < cLine){Q:Bool->Shared->Prop}{E:Value->Shared->Prop}(k:Q r s) :
 wpAny (model cx.prog cx.w) A (eqBool v w) Q E s:=by
 revert k
 refine Xo (C:=fun r=>Q r s->_) e fun d1 d2 e1 e2 k=>?_
 refine Ae fun G kG=>?_
 refine Ap (Cw R Fi x e1) fun zn0 g2 g3=>?_;obtain ⟨as,g1⟩:=zn0
 refine Ap (Cw R Fi y e2) fun zn0 f2 f3=>?_;obtain ⟨bs,f1⟩:=zn0
 refine kG ?_
 exact SeqAt.eqBoolOverData _ _ _ _ _ _ _ _ _ _ _ _ g1 f1 g2 f2 (zA (zJ (zC (Nat.min_le_left _ _) g3) _) (show A.units+6 < cLine by exact o10 hu)) k
theorem Ua(R:Rel H ρ s):∀ (n:Nat) (A:Around) (a b:Val) (v w:Value) (r:Bool) (Q:Value->Shared->Prop) (E:Value->Shared->Prop),VR ρ s.heap a v->VR ρ s.heap b w->Jr n a b=some r->A.units+20+n < cLine->Q (.bool r) s->wpAny (model cx.prog cx.w) A (richCompare .Lt v w) Q E s
 | 0,_,_,_,_,_,_,_,_,_,_,h,_,_=>by exact Ad h
 | n+1,A,a,b,v,w,r,Q,E,x,y,h,hu,k=>by
  refine Ahl (C:=fun a b r=>VR ρ s.heap a v->VR ρ s.heap b w->Q (.bool r) s->_) h (fun i j x y k=>?_) (fun ms ks h x y k=>?_) x y k
  · obtain ⟨t,hr0⟩:=x.int_inv;refine Eq.symm hr0▸?_
    obtain ⟨u,hr1⟩:=y.int_inv;refine Eq.symm hr1▸?_
    exact PyProof.Rows.lt_int k
  · obtain ⟨p,vs,n1,hr2,g1,r1⟩:=x.tup_inv;refine Eq.symm hr2▸?_
    obtain ⟨q,ws,n2,hr3,g2,r2⟩:=y.tup_inv;refine Eq.symm hr3▸?_
    have T1:s.TypeIs (.ref p) "tuple":=⟨_,g1,rfl⟩
    have T2:s.TypeIs (.ref q) "tuple":=⟨_,g2,rfl⟩
    refine wpAny_richCompare_same_room (T:="tuple") T1 T2 F.slot_tuple_lt (wpAny_call_entry F.slot_tuple_lt T1 F.entry_tuple_lt ?_ (F.args_tuple_lt_2 _ _)) (by exact o11 hu)
    have fin:∀ (z:Bool),z=r->(∃ v,(Fin.done (.ret (.bool z)):Fin)=.done (.ret v)/\v≠.notImplemented/\Q v s):=fun z e=>⟨.bool z,rfl,by simp,by rw [e];exact k⟩
    show wpAny _ _ (isInstance (.ref q) (.type "tuple")>>=_) _ _ s
    refine zB (wpAny_isInstance T2 isSubtype_tuple_tuple ?_)
    simp only [Bool.not_true,Bool.false_eq_true,if_false]
    refine zB (wpAny_tupleItemsOf g1 rfl ?_)
    refine zB (wpAny_tupleItemsOf g2 rfl ?_)
    refine zB ?_
    refine wpAny_forIn_list _
     (fun rest z s'=>z.1=none/\s'=s/\∃ ms' ks' vs' ws',rest=List.zip vs' ws'/\VRs ρ s.heap ms' vs'/\VRs ρ s.heap ks' ws'/\lts (Hb []) (Jr n) ms' ks'=some r/\decide (vs'.length < ws'.length)=decide (vs.toArray.size < ws.toArray.size))
     _ ?_ ?_ _ _ ⟨rfl,rfl,ms,ks,vs,ws,rfl,r1,r2,h,by simp⟩
    · intro ce rest z s' zz
      obtain ⟨hz,hs',ms',ks',vs',ws',hzip,q1,q2,hl,hlen⟩:=zz
      obtain ⟨c,e⟩:=ce
      rw [hs']
      clear hs' s'
      cases q1 with
      | nil=>simp at hzip
      | cons a1 q1 =>
       cases q2 with
       | nil=>simp at hzip
       | cons a2 q2 =>
        simp only [List.zip_cons_cons,List.cons.injEq,Prod.mk.injEq] at hzip
        obtain ⟨⟨rfl,rfl⟩,rfl⟩:=hzip
        rcases Qd hl with ⟨he,hl'⟩ | ⟨he,hl'⟩
        · refine zB (Hh R a1 a2 (Qk he) (by simp only [Around.in1_units];exact o12 hu) ?_)
          simp only [Bool.not_true,Bool.false_eq_true,if_false]
          exact zH ⟨rfl,rfl,_,_,_,_,rfl,q1,q2,hl',by simpa using hlen⟩
        · refine zB (Hh R a1 a2 (Qk he) (by simp only [Around.in1_units];exact o12 hu) ?_)
          simp only [Bool.not_false,if_true]
          refine zB (wpAny_rule ?_)
          refine zB (Ua R n A.in1 _ _ _ _ r _ _ a1 a2 hl' (by simp only [Around.in1_units];exact o13 hu) ?_)
          exact zB (zH (zH (zH (fin r rfl))))
    · intro z s' zz
      obtain ⟨hz,hs',ms',ks',vs',ws',hzip,q1,q2,hl,hlen⟩:=zz
      obtain ⟨z1,z2⟩:=z
      rw [hs']
      clear hs' s'
      simp only at hz
      subst hz
      refine zH ?_
      refine fin _ ?_
      rw [<- hlen]
      cases q1 with
      | nil =>
       cases q2 with
       | nil=>exact Option.some.inj hl
       | cons a2 q2=>exact Option.some.inj hl
      | cons a1 q1 =>
       cases q2 with
       | nil=>exact Option.some.inj hl
       | cons a2 q2=>simp at hzip
theorem Afi{p:Int->Int->Bool}{r:Bool}{C:Value->Value->Bool->Prop}{h:Heap}(e:Agx p a b=some r)(x1:VR ρ h a v)(x2:VR ρ h b w)(k:∀ x y t u,C (.int x t) (.int y u) (p x y)):C v w r:=by
 refine Ae0 (C:=fun a b r=>VR ρ h a v->VR ρ h b w->C v w r) e (fun x y x1 x2=>?_) x1 x2
 obtain ⟨t,e1⟩:=x1.int_inv
 obtain ⟨u,e2⟩:=x2.int_inv
 exact e1▸e2▸k _ _ _ _
theorem Afj{r:Bool}{C:Value->Prop}(e:isV a b=some r)(x1:VR ρ s.heap a v)(x2:VR ρ s.heap b w)(k0:r=(v == .none)->C .none):C w:=by
 cases b with
 | none=>cases x2;exact k0 (Nt x1 e)
 | _=>exact Ad e
theorem Mb(hu:A.units+100 < cLine){op:COp}(h1:∀ ρ h,P.P ρ h->VR ρ h a v)(h2:∀ ρ h,P.P ρ h->VR ρ h b w) :
 Sim A P (compareOp (Jb op) v w) ((M.look (D2 op a b)).bnd fun r=>M.ret (Val.bool r)) (Amb.vr):=by
 intro H ρ s R p
 have x1:=h1 _ _ p
 have x2:=h2 _ _ p
 cases e:D2 op a b H with
 | none=>rw [C9 (show M.look (D2 op a b) H=.bad by unfold M.look;rw [e])];trivial
 | some r =>
  rw [Du (show M.look (D2 op a b) H=.ok r H by unfold M.look;rw [e])]
  refine As R fun Q E k=>?_
  have k':∀ tk,Q (.bool r) { s with toks:=tk }:=fun tk=>k _ tk (.bool r)
  cases op with
  | eq=>exact Ah8 R x1 x2 e hu (k' s.toks)
  | ne =>
   refine ex1 (Jx e) fun r' zz=>Ac zz fun e' zr2=>?_;subst zr2
   exact Ah9 R x1 x2 e' hu (k' s.toks)
  | lt=>exact Ua R Fi A a b v w r _ _ x1 x2 e (by show A.units+20+6 < cLine;exact o14 hu) (k' s.toks)
  | le=>exact Afi (C:=fun v w r=>Q (.bool r) s->wpAny (model cx.prog cx.w) A (compareOp .LtE v w) Q E s) e x1 x2 (fun _ _ _ _=>PyProof.Rows.le_int) (k' s.toks)
  | gt=>exact Afi (C:=fun v w r=>Q (.bool r) s->wpAny (model cx.prog cx.w) A (compareOp .Gt v w) Q E s) e x1 x2 (fun _ _ _ _=>PyProof.Rows.gt_int) (k' s.toks)
  | is=>exact Afj (C:=fun w=>wpAny (model cx.prog cx.w) A (compareOp .Is v w) Q E s) e x1 x2 (fun h=>is_none (h▸k' s.toks))
  | isNot =>
   refine ex1 (Jx (show Aad true (isV a b)=some r from e)) fun r' zz=>Ac zz fun e' er=>?_
   exact Afj (C:=fun w=>wpAny (model cx.prog cx.w) A (compareOp .IsNot v w) Q E s) e' x1 x2 (fun h=>isNot_none (h▸er▸k' s.toks))
  | isin=>exact Aia R x1 x2 e hu k'
  | notin =>
   refine ex1 (Jx (show Aad true (inV a b H)=some r from e)) fun r' zz=>Ac zz fun e' zr2=>?_;subst zr2
   exact Xw R x1 x2 e' hu k'
end
end Mine.Internal
namespace Mine.Internal
open PySem PyProof.Rows
theorem b63{i:Int}{n:Nat}(z:n<=16777216)(h:i < n):i < 2 ^ 63:=Int.lt_trans (Int.lt_of_lt_of_le h (Int.ofNat_le.mpr z)) (by decide)
theorem l63{n:Nat}(z:n<=16777216):(n:Int) < 2 ^ 63:=Int.lt_of_le_of_lt (Int.ofNat_le.mpr z) (by decide)
theorem n63{i:Int}{n:Nat}(z:n<=16777216)(h:-(n:Int)<=i):-2 ^ 63<=i:=Int.le_trans (Int.le_trans (by decide) (Int.neg_le_neg (Int.ofNat_le.mpr z))) h
theorem rs1{i:Int}:(if 0 < i then i - 0 else 0)=((i.toNat:Nat):Int):=by
 by_cases h:0 < i
 · rw [if_pos h,Int.sub_zero,Int.toNat_of_nonneg (Int.le_of_lt h)]
 · rw [if_neg h,Int.toNat_of_nonpos (Int.not_lt.mp h)];rfl
theorem D6(slice:Expr)(o i:Value):∃ ops,subscripted slice false o i=operate ops (getItem o i):=by
 have h:∃ ops,operate [o,i] (getItem o i)=operate ops (getItem o i):=⟨_,rfl⟩
 cases slice with
 | Slice a b c d =>
  cases c with
  | none=>exact ⟨_,rfl⟩
  | some _=>exact h
 | _=>exact h
section
variable{A:Around}{P:Amb}{a b:Val}{v w:Value}{H:Hp}{ρ:Rho}{s:Shared}
set_option tactic.hygienic true in
theorem Oy{l:Addr}{vs:List Value}{n:Nat}{k:Int}{u:Tok}{p:Nat}{x:Value}{Q:Value->Shared->Prop}{E:Value->Shared->Prop}(g:s.heap.get? l=some (Bp vs n))(z:vs.length<=sizeLine)(hp:C2 k vs.length=some p)(hx:vs[p]?=some x)(h:Q x s) :
 wpAny (model cx.prog cx.w) A (getItem (.ref l) (.int k u)) Q E s:=by
 have L:s.heap.IsList l vs.toArray:=⟨_,g,rfl,n,rfl⟩
 rw [sizeLine_eq] at z
 unfold C2 at hp
 split at hp
 · split at hp
   · cases hp
     rename_i h0 h1
     exact wpAny_getItem_list L h0 (b63 z h1) (by simpa using hx) h
   · exact Ad hp
 · split at hp
   · cases hp
     rename_i h0 h1
     exact wpAny_getItem_list_neg L (by exact o15 h0) (by simpa using h1) (n63 z h1) (by simpa using hx) h
   · exact Ad hp
theorem Ql{value slice:Expr}{l:Addr}{vs:List Value}{xs:List Val}{n:Nat}{i:Int}{u:Tok}{r:Val}{Q E:Value->Shared->Prop}(g:s.heap.get? l=some (Bp vs n))(rr:VRs ρ s.heap xs vs)(z:xs.length<=sizeLine)
 (e:((C2 i xs.length).bind fun p=>xs[p]?)=some r) (k:∀ x tk,VR ρ s.heap r x->Q x { s with toks:=tk }):wpAny (model cx.prog cx.w) A (subscriptTail value slice (.ref l) (.int i u)) Q E s:=by
 refine Ae fun G kG=>?_
 obtain ⟨ops,hops⟩:=D6 slice (.ref l) (.int i u)
 refine ex1 (Option.bind_eq_some_iff.mp e) fun pl zz=>Ac zz fun e1 e2=>?_
 refine ex1 (rr.get e2) fun x zz=>Ac zz fun ex vx=>?_
 refine kG ?_
 rw [rr.length] at z e1
 exact tail_any (T:="list") (Heap.IsList.typeIs (s:=s) ⟨_,g,rfl,n,rfl⟩) PySem.slot_list_getitem.lookup (Oy g z e1 ex (k _ s.toks vx)) hops
theorem Xx{value slice:Expr}{q:Addr × Addr}{l:Nat}{es:List (Key × Val)}{r:Val}{Q E:Value->Shared->Prop}(hu:A.units+100 < cLine)(R:Rel H ρ s)(hl:H[l]?=some (.dict es))(hq:ρ[l]?=some q)(x2:VR ρ s.heap b w)(e:((Es b).bind (Fj es))=some r)
 (k:∀ x tk,VR ρ s.heap r x->Q x { s with toks:=tk }):wpAny (model cx.prog cx.w) A (subscriptTail value slice (.ref q.1) w) Q E s:=by
 refine Ae fun G kG=>?_
 obtain ⟨ops,hops⟩:=D6 slice (.ref q.1) w
 refine ex1 (Option.bind_eq_some_iff.mp e) fun kk zz=>Ac zz fun e1 e2=>?_
 refine ex1 (R.dictAt hl hq) fun xs zz=>Cl zz fun _ D rr _=>?_
 refine ex1 (Qj x2 e1) fun bb zz=>Ap zz fun zr1 hk _=>?_;subst zr1
 refine kG ?_
 have at':=rr.atKey kk
 rw [e2] at at'
 cases hp:atKey xs [kk.1,kk.2] with
 | none=>rw [hp] at at';exact at'.elim
 | some pr =>
  rw [hp] at at'
  exact tail_any (T:="dict") D.typeIs PySem.slot_dict_getitem.lookup (wpAny_getItem_heap (knd:=cellKind) (tupleKind_room_in1 (by clear at' rr;exact o9 hu)) hk D hp (k _ _ at')) hops
theorem sub_tup{value slice:Expr}{t:Addr}{vs:List Value}{ms:List Val}{n:Nat}{i:Int}{u:Tok}{r:Val}{Q E:Value->Shared->Prop}(g:s.heap.get? t=some (Qh vs n))(rr:VRs ρ s.heap ms vs)(z:ms.length<=sizeLine)
 (h0:0<=i) (e:ms[i.toNat]?=some r) (k:∀ x tk,VR ρ s.heap r x->Q x { s with toks:=tk }):wpAny (model cx.prog cx.w) A (subscriptTail value slice (.ref t) (.int i u)) Q E s:=by
 refine Ae fun G kG=>?_
 obtain ⟨ops,hops⟩:=D6 slice (.ref t) (.int i u)
 refine ex1 (rr.get e) fun x zz=>Ac zz fun ex vx=>?_
 refine kG ?_
 have lt:=(List.getElem?_eq_some_iff.mp ex).1
 rw [rr.length,sizeLine_eq] at z
 refine tail_any (T:="tuple") (Heap.IsTuple.typeIs (s:=s) ⟨_,g,rfl,n,rfl⟩) slot_tuple_getitem.lookup ?_ hops
 exact getItem_tuple (items:=vs.toArray) ⟨_,g,rfl,n,rfl⟩ (Int.le_trans (by decide) h0) (b63 z (by exact o16 h0 lt)) (seqIndex_of h0 (by simp only [List.size_toArray];exact o16 h0 lt)) (by simpa using ex) (k _ s.toks vx)
theorem VR.tup_inv'{ms:List Val}{h:Heap}(x:VR ρ h (.tup ms) v):∃ p vs n,v=.ref p/\h.get? p=some (Qh vs n)/\VRs ρ h ms vs/\ms.length<=sizeLine:=by cases x;exact ⟨_,_,_,rfl,by assumption,by assumption,by assumption⟩
theorem VR.script_inv{ns:List Int}{h:Heap}(x:VR ρ h (.script ns) v):∃ p vs n,v=.ref p/\cx.h₀.get? p=some (Bp vs n)/\VRs ρ h (ns.map .int) vs/\ns.length<=sizeLine:=by cases x;exact ⟨_,_,_,rfl,by assumption,by assumption,by assumption⟩
theorem Oz{ns:List Int}{i:Int}{r:Val}(e:((C2 i ns.length).bind fun p=>(ns[p]?).map Val.int)=some r):((C2 i (ns.map Val.int).length).bind fun p=>(ns.map Val.int)[p]?)=some r:=by
 rw [List.length_map,<- e]
 congr 1
 funext p
 rw [List.getElem?_map]
set_option tactic.hygienic true in
theorem O0{value slice:Expr}(hu:A.units+100 < cLine)(h1:∀ ρ h,P.P ρ h->VR ρ h a v)(h2:∀ ρ h,P.P ρ h->VR ρ h b w):Sim A P (subscriptTail value slice v w) (Dm a b) (Amb.vr):=by
 refine Sim.look fun H ρ s r R p e Q E k=>?_
 have x1:=h1 _ _ p
 have x2:=h2 _ _ p
 clear h1 h2 p
 cases a with
 | loc l =>
  refine ex1 x1.loc_inv fun q zz=>Ac zz fun hq hr0=>?_;refine Eq.symm hr0▸?_
  cases hl:H[l]? with
  | none=>dsimp only at e;rw [hl] at e;exact Ad e
  | some o =>
   dsimp only at e
   rw [hl] at e
   cases o with
   | list xs =>
    cases b with
    | int i =>
     obtain ⟨u,hr1⟩:=x2.int_inv;refine Eq.symm hr1▸?_
     refine ex2 (R.listAt hl hq) fun vs n zz=>Cl zz fun _ g rr z=>?_
     exact Ql g rr z e k
    | _=>exact Ad e
   | dict es=>exact Xx hu R hl hq x2 e k
   | _=>exact Ad e
 | tup ms =>
  cases b with
  | int i =>
   obtain ⟨u,rfl⟩:=x2.int_inv
   refine ex3 x1.tup_inv' fun t vs n zz=>Cl zz fun zr3 g rr z=>?_;subst zr3
   have e:(if 0<=i then ms[i.toNat]? else none)=some r:=e
   split at e
   · rename_i h0;exact sub_tup g rr z h0 e k
   · exact Ad e
  | _=>exact Ad e
 | script ns =>
  cases b with
  | int i =>
   obtain ⟨u,rfl⟩:=x2.int_inv
   refine ex3 x1.script_inv fun t vs n zz=>Cl zz fun zr3 g rr z=>?_;subst zr3
   exact Ql (R.base _ _ g) rr (by rw [List.length_map];exact z) (Oz e) k
  | _=>exact Ad e
 | _=>exact Ad e
end
end Mine.Internal
namespace Mine.Internal
open PySem
section
variable{A:Around}{P:Amb}{a b:Val}{v w:Value}{H:Hp}{ρ:Rho}{s:Shared}
noncomputable def Aib(s:Shared)(v:Value):Kd->Prop
 | .none=>v=.none
 | .bool=>∃ b,v=.bool b
 | .int=>∃ i t,v=.int i t
 | .str=>∃ y t,v=.str y t
 | .tuple=>∃ p o,v=.ref p/\s.heap.get? p=some o/\o.cls=.type "tuple"
 | .list=>∃ p o,v=.ref p/\s.heap.get? p=some o/\o.cls=.type "list"
 | .dict=>∃ p o,v=.ref p/\s.heap.get? p=some o/\o.cls=.type "dict"
theorem Aic(R:Rel H ρ s)(x:VR ρ s.heap a v){k:Kd}(e:Qa H a=some k):Aib s v k:=by
 cases x with
 | none=>cases e;rfl
 | bool b=>cases e;exact ⟨_,rfl⟩
 | int i t=>cases e;exact ⟨_,_,rfl⟩
 | str y t z=>cases e;exact ⟨_,_,rfl⟩
 | tup g _ _ _=>cases e;exact ⟨_,_,rfl,g,rfl⟩
 | script g _ _=>cases e;exact ⟨_,_,rfl,R.base _ _ g,rfl⟩
 | @loc l p hp =>
  refine Ahn (C:=Aib s (.ref p.1)) e (fun xs hl=>?_) fun es hl=>?_
  · refine Ae fun G kG=>?_
    refine ex2 (R.listAt hl hp) fun vs n zz=>Ap zz fun _ g _=>?_
    refine kG ?_
    exact ⟨_,_,rfl,g,rfl⟩
  · refine Ae fun G kG=>?_
    refine ex1 (R.dictAt hl hp) fun xs zz=>Ap zz fun _ D _=>?_
    refine ex3 D fun o _ _ zz=>Ap zz fun g ex _=>?_
    refine kG ?_
    exact ⟨_,_,rfl,g,ex.1⟩
 | rng=>exact Ad e
 | exc=>exact Ad e
noncomputable def Xy:Ty->Value
 | .int=>.type "int"
 | .bool=>.type "bool"
 | .str=>.type "str"
 | .tuple=>.type "tuple"
 | .list=>.type "list"
 | .cls _=>.none
theorem Afk(R:Rel H ρ s)(x:VR ρ s.heap a v){k:Kd}(e:Qa H a=some k){t:Ty}(ht:∀ c,t≠.cls c){Q:Value->Shared->Prop}{E:Value->Shared->Prop}(q:∀ tk,Q (.bool (Aae t k)) { s with toks:=tk }) :
 wpAny (model cx.prog cx.w) A (call (.builtin "isinstance") [v,Xy t]) Q E s:=by
 have d:=Aic R x e
 cases k <;> cases t
 case none.cls | bool.cls | int.cls | str.cls | tuple.cls | list.cls | dict.cls=>exact absurd rfl (ht _)
 all_goals dsimp only [Aib] at d
 case none.int=>subst d;exact IsiPair.NoneType_int (q _)
 case none.bool=>subst d;exact IsiPair.NoneType_bool (q _)
 case none.str=>subst d;exact IsiPair.NoneType_str (q _)
 case none.tuple=>subst d;exact IsiPair.NoneType_tuple (q _)
 case none.list=>subst d;exact IsiPair.NoneType_list (q _)
 case bool.int=>obtain ⟨b,rfl⟩:=d;exact IsiPair.bool_int (q _)
 case bool.bool=>obtain ⟨b,rfl⟩:=d;exact IsiPair.bool_bool (q _)
 case bool.str=>obtain ⟨b,rfl⟩:=d;exact IsiPair.bool_str (q _)
 case bool.tuple=>obtain ⟨b,rfl⟩:=d;exact IsiPair.bool_tuple (q _)
 case bool.list=>obtain ⟨b,rfl⟩:=d;exact IsiPair.bool_list (q _)
 case int.int=>refine ex2 d fun i u zr2=>?_;subst zr2;exact IsiPair.int_int (q _)
 case int.bool=>refine ex2 d fun i u zr2=>?_;subst zr2;exact IsiPair.int_bool (q _)
 case int.str=>refine ex2 d fun i u zr2=>?_;subst zr2;exact IsiPair.int_str (q _)
 case int.tuple=>refine ex2 d fun i u zr2=>?_;subst zr2;exact IsiPair.int_tuple (q _)
 case int.list=>refine ex2 d fun i u zr2=>?_;subst zr2;exact IsiPair.int_list (q _)
 case str.int=>refine ex2 d fun i u zr2=>?_;subst zr2;exact IsiPair.str_int (q _)
 case str.bool=>refine ex2 d fun i u zr2=>?_;subst zr2;exact IsiPair.str_bool (q _)
 case str.str=>refine ex2 d fun i u zr2=>?_;subst zr2;exact IsiPair.str_str (q _)
 case str.tuple=>refine ex2 d fun i u zr2=>?_;subst zr2;exact IsiPair.str_tuple (q _)
 case str.list=>refine ex2 d fun i u zr2=>?_;subst zr2;exact IsiPair.str_list (q _)
 case tuple.int=>refine ex2 d fun p o zz=>Ap zz fun zr2 g c=>?_;subst zr2;exact IsiPair.tuple_int g c (q _)
 case tuple.bool=>refine ex2 d fun p o zz=>Ap zz fun zr2 g c=>?_;subst zr2;exact IsiPair.tuple_bool g c (q _)
 case tuple.str=>refine ex2 d fun p o zz=>Ap zz fun zr2 g c=>?_;subst zr2;exact IsiPair.tuple_str g c (q _)
 case tuple.tuple=>refine ex2 d fun p o zz=>Ap zz fun zr2 g c=>?_;subst zr2;exact IsiPair.tuple_tuple g c (q _)
 case tuple.list=>refine ex2 d fun p o zz=>Ap zz fun zr2 g c=>?_;subst zr2;exact IsiPair.tuple_list g c (q _)
 case list.int=>refine ex2 d fun p o zz=>Ap zz fun zr2 g c=>?_;subst zr2;exact IsiPair.list_int g c (q _)
 case list.bool=>refine ex2 d fun p o zz=>Ap zz fun zr2 g c=>?_;subst zr2;exact IsiPair.list_bool g c (q _)
 case list.str=>refine ex2 d fun p o zz=>Ap zz fun zr2 g c=>?_;subst zr2;exact IsiPair.list_str g c (q _)
 case list.tuple=>refine ex2 d fun p o zz=>Ap zz fun zr2 g c=>?_;subst zr2;exact IsiPair.list_tuple g c (q _)
 case list.list=>refine ex2 d fun p o zz=>Ap zz fun zr2 g c=>?_;subst zr2;exact IsiPair.list_list g c (q _)
 case dict.int=>refine ex2 d fun p o zz=>Ap zz fun zr2 g c=>?_;subst zr2;exact IsiPair.dict_int g c (q _)
 case dict.bool=>refine ex2 d fun p o zz=>Ap zz fun zr2 g c=>?_;subst zr2;exact IsiPair.dict_bool g c (q _)
 case dict.str=>refine ex2 d fun p o zz=>Ap zz fun zr2 g c=>?_;subst zr2;exact IsiPair.dict_str g c (q _)
 case dict.tuple=>refine ex2 d fun p o zz=>Ap zz fun zr2 g c=>?_;subst zr2;exact IsiPair.dict_tuple g c (q _)
 case dict.list=>refine ex2 d fun p o zz=>Ap zz fun zr2 g c=>?_;subst zr2;exact IsiPair.dict_list g c (q _)
noncomputable def Mc:BF->Value
 | .len=>.builtin "len"
 | .range=>.type "range"
 | .list=>.type "list"
 | .sorted=>.builtin "sorted"
 | .min2=>.builtin "min"
 | .max2=>.builtin "max"
theorem Xz(R:Rel H ρ s)(x:VR ρ s.heap a v){xs:List Val}(e:C1 a H=some xs) :
 (∃ p vs n,v=.ref p/\s.heap.get? p=some (Bp vs n)/\VRs ρ s.heap xs vs/\xs.length<=sizeLine)\/(∃ p vs n,v=.ref p/\s.heap.get? p=some (Qh vs n)/\VRs ρ s.heap xs vs/\xs.length<=sizeLine):=by
 cases x with
 | @tup p vs n ms g no z r=>cases e;exact .inr ⟨_,_,_,rfl,g,r,z⟩
 | @script p vs n ns g z r=>cases e;exact .inl ⟨_,_,_,rfl,R.base _ _ g,r,by rw [List.length_map];exact z⟩
 | @loc l p hp =>
  refine Ae fun G kG=>?_
  refine ex2 (R.listAt (No e) hp) fun vs n zz=>Cl zz fun _ g r z=>?_
  refine kG ?_
  exact .inl ⟨_,_,_,rfl,g,r,z⟩
 | _=>exact Ad e
theorem Acc(h1:∀ ρ h,P.P ρ h->VR ρ h a v):Sim A P (call (.builtin "len") [v]) (bfV .len [a]) (Amb.vr):=by
 refine Sim.look fun H ρ s r R p e Q E k=>?_
 have x:=h1 _ _ p
 have gen:∀ xs,C1 a H=some xs->r=.int xs.length->wpAny (model cx.prog cx.w) A (call (.builtin "len") [v]) Q E s:=by
  intro xs e' hr
  subst hr
  rcases Xz R x e' with ⟨p,vs,n,rfl,g,rr,z⟩ | ⟨p,vs,n,rfl,g,rr,z⟩
  · rw [sizeLine_eq] at z
    rw [rr.length] at z k
    refine PyProof.Rows.len_list (items:=vs.toArray) ⟨_,g,rfl,n,rfl⟩ (l63 z) ?_
    simp only [List.size_toArray]
    exact k _ _ (.int _ _)
  · rw [sizeLine_eq] at z
    rw [rr.length] at z k
    refine PyProof.Rows.len_tuple (items:=vs.toArray) ⟨_,g,rfl,n,rfl⟩ (l63 z) ?_
    simp only [List.size_toArray]
    exact k _ _ (.int _ _)
 cases x with
 | _ =>
  simp only [Option.map_eq_some_iff] at e
  refine ex1 e fun xs zz=>Ac zz fun e1 zr2=>?_;subst zr2
  exact gen xs e1 rfl
theorem Ub(h1:∀ ρ h,P.P ρ h->VR ρ h a v):Sim A P (call (.type "range") [v]) (bfV .range [a]) (Amb.vr):=by
 intro H ρ s R p
 have x:=h1 _ _ p
 cases x with
 | int i t =>
  show A8 A ((if -1073741824<=i/\i<=1073741824 then M.ret (Val.rng i) else M.bad) H) _ _ ρ s
  by_cases q:-1073741824<=i/\i<=1073741824
  · rw [if_pos q]
    have F:=Full.push ρ s.heap { cls:=.type "range",data:=.fields #[.int 0 s.toks,.int i t,.int 1 (s.toks+1)] }
    exact call_range_1 ⟨ρ,F,R.push _ _,.rng (IsRange.new _ _ _ _ _ _ _) (R.fresh_not (Am _)) (Int.le_trans (by decide) q.1) (Int.lt_of_le_of_lt q.2 (by decide))⟩
  · rw [if_neg q];trivial
 | _=>trivial
theorem X0(hh:A.handled=none)(h1:∀ ρ h,P.P ρ h->VR ρ h a v)(h2:∀ ρ h,P.P ρ h->VR ρ h b w):Sim A P (call (.builtin "min") [v,w]) (bfV .min2 [a,b]) (Amb.vr):=by
 intro H ρ s R p
 have x:=h1 _ _ p
 have y:=h2 _ _ p
 cases x with
 | int i t =>
  cases y with
  | int j u =>
   refine min_two_ints hh fun h' tk kp=>?_
   refine ⟨ρ,Full.more kp,R.more kp,?_⟩
   by_cases q:j < i
   · rw [if_pos q,if_pos q];exact .int _ _
   · rw [if_neg q,if_neg q];exact .int _ _
  | _=>trivial
 | _=>trivial
theorem X1(hh:A.handled=none)(h1:∀ ρ h,P.P ρ h->VR ρ h a v)(h2:∀ ρ h,P.P ρ h->VR ρ h b w):Sim A P (call (.builtin "max") [v,w]) (bfV .max2 [a,b]) (Amb.vr):=by
 intro H ρ s R p
 have x:=h1 _ _ p
 have y:=h2 _ _ p
 cases x with
 | int i t =>
  cases y with
  | int j u =>
   refine max_two_ints hh fun h' tk kp=>?_
   refine ⟨ρ,Full.more kp,R.more kp,?_⟩
   by_cases q:j > i
   · rw [if_pos q,if_pos q];exact .int _ _
   · rw [if_neg q,if_neg q];exact .int _ _
  | _=>trivial
 | _=>trivial
theorem J2{t:Sem Value}{xs:List Val}(R:Rel H ρ s)(z:xs.length<=sizeLine)
 (k:∀ (Q:Value->Shared->Prop) (E:Value->Shared->Prop),(∀ h' tk vs n,(∀ b o,s.heap.get? b=some o->h'.get? b=some o)->h'.get? s.heap.objs.size=some (Bp vs n)->(∀ ρ',Step ρ s.heap ρ' h'->VRs ρ' h' xs vs)->Q (.ref s.heap.objs.size) { s with heap:=h',toks:=tk })->wpAny (model cx.prog cx.w) A t Q E s) :
 A8 A (.ok (.loc H.length) (H++[.list xs])) t (Amb.vr) ρ s:=by
 refine k _ _ fun h' tk vs n kp e r=>?_
 obtain ⟨F,R'⟩:=R.alloc (tk:=tk) (o:=.list xs) (p:=(s.heap.objs.size,s.heap.objs.size)) kp ⟨Am _,Am _⟩
  (.list (n:=n) e (r _ (Full.alloc kp ⟨Am _,Am _⟩).step) z)
 refine ⟨_,F,R',?_⟩
 rw [R.len]
 exact VR.loc (p:=(s.heap.objs.size,s.heap.objs.size)) (by rw [List.getElem?_append_right (zI _)];simp)
theorem X2{xs:List Val}{vs:List Value}(n:Nat)(hx:xs.length=n)(hv:vs.length=n)(h:∀ i (hi:i < n),∃ t,xs[i]?=some (.int (i:Int))/\vs[i]?=some (.int (i:Int) t))(ρ:Rho)(hp:Heap):VRs ρ hp xs vs:=by
 have gen:∀ (xs:List Val) (vs:List Value),xs.length=vs.length->(∀ i,i < xs.length->∃ j t,xs[i]?=some (.int j)/\vs[i]?=some (.int j t))->VRs ρ hp xs vs:=by
  intro xs
  induction xs with
  | nil=>intro vs h _;cases vs with
   | nil=>exact .nil
   | cons _ _=>simp at h
  | cons x xs ih =>
   intro vs h k
   cases vs with
   | nil=>simp at h
   | cons v vs =>
    refine ex2 (k 0 (by simp)) fun j t zz=>Ac zz fun e1 e2=>?_
    simp at e1 e2
    subst e1 e2
    refine .cons (.int _ _) (ih vs (by simpa using h) fun i hi=>?_)
    refine ex2 (k (i+1) (by simpa using hi)) fun j' t' zz=>Ac zz fun e1 e2=>?_
    exact ⟨j',t',by simpa using e1,by simpa using e2⟩
 refine gen xs vs (hx.trans hv.symm) fun i hi=>?_
 refine ex1 (h i (by exact o17 hi hx hv)) fun t zz=>Ac zz fun e1 e2=>?_
 exact ⟨_,t,e1,e2⟩
theorem R8(hh:A.handled=none)(h1:∀ ρ h,P.P ρ h->VR ρ h a v):Sim A P (call (.type "list") [v]) (bfV .list [a]) (Amb.vr):=by
 intro H ρ s R p
 have x:=h1 _ _ p
 cases x with
 | @rng q i t u w g no z1 z2 =>
  show A8 A (if i<=100000 then M.alloc (.list ((List.range i.toNat).map fun (k:Nat)=>.int (k:Int))) H else .bad) _ _ ρ s
  by_cases hi:i<=100000
  · rw [if_pos hi]
    refine J2 R (by rw [List.length_map,List.length_range,sizeLine_eq];exact o18 z1 z2 hi) fun Q E k=>?_
    refine call_list_range (n:=i.toNat) hh g (small_one (by decide) (by decide) z1 z2) (by rw [rangeSize_one];exact rs1) (zC (Int.toNat_le.mpr hi:_<=100000) (by decide)) fun h' tk acc c kp e it=>?_
    refine k h' tk acc.toList c kp (by simpa [Bp] using e) fun ρ' _=>X2 i.toNat (by simp) ?_ (fun j hj=>?_) _ _
    · have:=it.1;simpa using this
    · have lt:j < acc.size:=by rw [it.1];exact hj
      have e0:acc[j]?=some acc[j]:=Array.getElem?_eq_getElem lt
      obtain ⟨t,ht⟩:=it.2 j _ e0
      refine ⟨t,by simp [hj],?_⟩
      rw [ht] at e0
      simpa using e0
  · rw [if_neg hi];trivial
 | @loc l q hq =>
  show A8 A (match C1 (.loc l) H with
   | some xs=>M.alloc (.list xs) H
   | none=>.bad) _ _ ρ s
  cases e:C1 (.loc l) H with
  | some xs =>
   refine Ae fun G kG=>?_
   refine ex2 (R.listAt (No e) hq) fun vs n zz=>Cl zz fun _ g r z=>?_
   refine kG ?_
   refine J2 R z fun Q E k=>?_
   refine call_list_seq q.1 (T:="list") (items:=vs.toArray) (.inl rfl) g rfl rfl (fun h' c kp e=>?_) (by simp only [List.size_toArray];rw [<- r.length];exact z)
   exact k h' s.toks vs c kp e fun ρ' st=>r.step st
  | none=>trivial
 | _=>trivial
end
theorem Dn{o:Expr}(h:Cp o=true)(n:Str)(env:Env)(t:Sem Value):attributeBase o n env t=t:=by
 have k:t=t:=rfl
 cases o with
 | Call f args kws pos =>
  cases f with
  | Name id c =>
   cases args with
   | nil =>
    cases kws with
    | nil =>
     have:(id != ("super":Str))=true:=h
     exact if_pos (by simp only [this,Bool.true_or])
    | cons _ _=>exact k
   | cons _ _=>exact k
  | _=>exact k
 | _=>exact k
section
variable{A:Around}{P:Amb}{env:Env}{H:Hp}{ρ:Rho}{s:Shared}
noncomputable def B6(env:Env):List Expr->Prop
 | []=>True
 | e :: es=>starEach (e :: es) env=(false,eval e env) :: starEach es env/\B6 env es
theorem An{env:Env}:∀ {xs:List Expr} (pos:Pos),B6 env xs->backTo pos (starEach xs env)=xs.map fun e=>(false,eval e env)
 | [],pos,_=>rfl
 | e :: es,pos,h=>by
  rw [h.1]
  have:=An pos h.2
  unfold backTo at this ⊢
  rw [List.map_cons,this]
  simp
theorem Hj{env:Env}{xs:List Expr}{pos:Pos}(h:B6 env xs)(z:xs.length<=20) :
 ((backTo pos (starEach xs env)).all (fun x=>!x.1) && (backToKw pos (keywordEach [] env)).all (fun x=>x.1.isSome) && decide (xs.length+([]:List Keyword).length+(if ([]:List Keyword).isEmpty then 0 else 1) < 30))=true:=by
 rw [An pos h]
 simp only [Bool.and_eq_true,List.all_eq_true,List.mem_map,forall_exists_index,and_imp,decide_eq_true_eq]
 refine ⟨⟨fun x e _ hx=>by rw [<- hx];rfl,?_⟩,?_⟩
 · intro x hx;exact absurd (show x∈[] from hx) List.not_mem_nil
 · simp;exact o19 z
theorem O1{T id:String}{o:Expr}{name:Str}{apos pos:Pos}{args:List Expr}{m:M Val}{g:Val->M Val}(hs:Cp o=true)(hp:B6 env args)(hz:args.length<=20)(hline:(apos.endLine == pos.line)=true)
 (pa:PlainAttrs T) (slot:Slot T name id) (hty:typeOf (.builtin id)=pure (.type "method_descriptor"))
 (x:A8 A (m H) (eval o env) (Amb.vr) ρ s)
 (y:∀ b a H' ρ' s',m H=.ok b H'->Full ρ s.heap ρ' s'.heap->Rel H' ρ' s'->VR ρ' s'.heap b a ->
  Gn (g b H') (fun Q E s₁=>s₁.TypeIs a T/\(∀ p,a=.ref p->∃ ob,s₁.heap.get? p=some ob/\ob.dict=none)/\wpAny (model cx.prog cx.w) A (callWith pos (.builtin id) [a] (args.map fun e=>(false,eval e env)) []) Q E s₁) (Amb.vr) ρ' s') :
 A8 A (m.bnd g H) (eval (.Call (.Attribute o name apos) args [] pos) env) (Amb.vr) ρ s :=
 A8.bindK (K':=fun Q E s=>wpAny (model cx.prog cx.w) A (eval (.Call (.Attribute o name apos) args [] pos) env) Q E s) x y
  (fun a Q E Q' E' s ⟨h1,h2,h3⟩ k1 k2=>⟨h1,h2,zE h3 k1 k2⟩)
  (fun Q E h=>wpAny_Call_method (Dn hs _ _ _) (Hj hp hz) hline pa slot hty (by rw [An pos hp];exact h))
theorem Gn.andK{β α:Type}{r:Res β}{p:Prop}(hp:p){K:(α->Shared->Prop)->(Value->Shared->Prop)->Shared->Prop}{V:β->α->Amb}(x:Gn r K V ρ s):Gn r (fun Q E s'=>p/\K Q E s') V ρ s:=x.mono fun _ _ h=>⟨hp,h⟩
theorem Uc(R:Rel H ρ s){l:Nat}{p:Addr × Addr}{xs:List Val}(hl:H[l]?=some (.list xs))(hp:ρ[l]?=some p):s.TypeIs (.ref p.1) "list"/\∀ q,Value.ref p.1=.ref q->∃ ob,s.heap.get? q=some ob/\ob.dict=none:=by
 refine Ae fun G kG=>?_
 refine ex2 (R.listAt hl hp) fun vs n zz=>Ap zz fun _ g _=>?_
 refine kG ?_
 exact ⟨⟨_,g,rfl⟩,fun q e=>by cases e;exact ⟨_,g,rfl⟩⟩
theorem J3(vs:List Value)(n:Nat)(f:Array Value->Array Value):∃ n',Obj.mapSeq f (Bp vs n)=Bp (f vs.toArray).toList n':=by
 unfold Bp Obj.mapSeq
 exact ⟨_,rfl⟩
theorem Hk{l:Nat}{p:Addr × Addr}{b:Val}{v:Value}{ys:List Val}{vs:List Value}{n:Nat}(R:Rel H ρ s)(hl:ρ[l]?=some p)(hpp:p.2=p.1)(g:s.heap.get? p.1=some (Bp vs n))(f:Array Value->Array Value)
 (r:VRs ρ s.heap ys (f vs.toArray).toList) (z:ys.length<=sizeLine) (hv:∀ h,Full ρ s.heap ρ h->VR ρ h b v) :
 ∃ ρ',Full ρ s.heap ρ' (s.heap.update p.1 (Obj.mapSeq f))/\Rel (H.set l (.list ys)) ρ' { s with heap:=s.heap.update p.1 (Obj.mapSeq f) }/\(Amb.vr b v).P ρ' (s.heap.update p.1 (Obj.mapSeq f)):=by
 obtain ⟨n',e⟩:=J3 vs n f
 have g':(s.heap.update p.1 (Obj.mapSeq f)).get? p.1=some (Bp (f vs.toArray).toList n'):=by
  rw [Heap.get?_update_self _ g (by skip;rfl),e]
 have hs:Heap.SameBut p.1 s.heap (s.heap.update p.1 (Obj.mapSeq f)):=Heap.SameBut.update ..
 have own:Av ρ p.1:=⟨p,zF hl,.inl rfl⟩
 have F:=Full.own own g' hs
 obtain ⟨F',R'⟩:=R.set (tk:=s.toks) (o:=.list ys) hl (fun b ob eb n1 _=>by rw [hs.2 b n1];exact eb) (SameBut.live hs g') (by
  obtain ⟨p1,p2⟩:=p
  dsimp only at hpp
  refine Eq.symm hpp▸?_
  exact .list g' (r.step F.step) z)
 exact ⟨ρ,F',R',hv _ F'⟩
theorem Ig{vs:List Value}{xs:List Val}(r:VRs ρ s.heap xs vs)(z:xs.length<=sizeLine):vs.toArray.size<=sizeLine:=by simp only [List.size_toArray];rw [<- r.length];exact z
theorem Ft{Φ:Funs}{Γ:Env'}{es:MEs}{xs:List Expr}{f:Value}{γ δ:Type}{g:List Val->M δ}{W:δ->γ->Amb}{K:List Value->(γ->Shared->Prop)->(Value->Shared->Prop)->Shared->Prop}
 (hn:xs=[]->es=.nil) (R:Rel H ρ s) (x:A8 A (evalEs cx.T Φ es Γ H) (spliced (xs.map fun e=>(false,eval e env))) (Amb.vrs) ρ s)
 (y:∀ ms vs H' ρ' s',evalEs cx.T Φ es Γ H=.ok ms H'->Full ρ s.heap ρ' s'.heap->Rel H' ρ' s'->VRs ρ' s'.heap ms vs->Gn (g ms H') (K vs) W ρ' s') (mk:∀ vs,R6 (K vs)) :
 Gn ((evalEs cx.T Φ es Γ).bnd g H) (fun Q E s=>wpAny (model cx.prog cx.w) A (evalArgs f true (xs.map fun e=>(false,eval e env)) []) (fun a s₁=>a.kw=[]/\K a.pos Q E s₁) E s) W ρ s:=by
 cases xs with
 | nil =>
  obtain rfl:=hn rfl
  have e:evalEs cx.T Φ .nil Γ H=.ok [] H:=rfl
  refine (y [] [] H ρ s e (Full.refl _ _) R .nil).mono fun Q E h=>?_
  exact evalArgs_none ⟨rfl,h⟩
 | cons e0 es0 =>
  refine A8.bindK (K:=K) x y mk fun Q E h=>?_
  exact Calls.evalArgs_plain (zE h (fun vs s' h'=>⟨rfl,h'⟩) fun _ _ q=>q)
theorem Dg(args:List Expr):(args.map fun e=>(false,eval e env)).any (·.1)=false:=by
 induction args with
 | nil=>rfl
 | cons e es ih=>rw [List.map_cons,List.any_cons,ih];rfl
theorem Jg{α:Type}(t:Sem α):R6 fun Q E s=>wpAny (model cx.prog cx.w) A t Q E s:=fun _ _ _ _ _ h k1 k2=>zE h k1 k2
theorem R9{Φ:Funs}{Γ:Env'}{es:MEs}{xs:List Expr}{pos:Pos}{id:String}{first:List Value}{g:List Val->M Val}(hn:xs=[]->es=.nil)(R:Rel H ρ s)
 (x:A8 A (evalEs cx.T Φ es Γ H) (spliced (xs.map fun e=>(false,eval e env))) (Amb.vrs) ρ s)
 (y:∀ ms vs H' ρ' s',evalEs cx.T Φ es Γ H=.ok ms H'->Full ρ s.heap ρ' s'.heap->Rel H' ρ' s'->VRs ρ' s'.heap ms vs->A8 A (g ms H') (call (.builtin id) (first++vs)) (Amb.vr) ρ' s') :
 A8 A ((evalEs cx.T Φ es Γ).bnd g H) (callWith pos (.builtin id) first (xs.map fun e=>(false,eval e env)) []) (Amb.vr) ρ s :=
 (Ft (f:=.builtin id) (K:=fun vs Q E s=>wpAny (model cx.prog cx.w) A (call (.builtin id) (first++vs)) Q E s) hn R x y (fun _=>Jg _)).mono fun Q E h =>
  Calls.callWith_builtin (Dg _) (zE h (fun a s₁ h₁=>by rw [h₁.1];exact h₁.2) fun _ _ q=>q)
noncomputable def Ato:BM->String
 | .append=>"list.append"
 | .pop=>"list.pop"
 | .dpop=>"dict.pop"
 | .clear=>"list.clear"
 | .rstrip=>"str.rstrip"
noncomputable def Xe(m:BM):String × String:=(Qb m,Ato m)
theorem X3(m:BM):PlainAttrs (Xe m).1:=by
 cases m <;> first | exact F.plainAttrs_list | exact F.plainAttrs_dict | exact F.plainAttrs_str
theorem Acd(m:BM):Slot (Xe m).1 (Hf m).1 (Xe m).2:=by
 cases m
 · exact F.slot_list_append
 · exact F.slot_list_pop
 · exact F.slot_dict_pop
 · exact F.slot_list_clear
 · exact F.slot_str_rstrip
set_option maxRecDepth 100000 in
theorem Ace(m:BM):typeOf (.builtin (Xe m).2)=pure (.type "method_descriptor"):=by
 cases m <;> kernel_rfl
theorem Acf{m:BM}{b:Val}{v:Value}(R:Rel H ρ s)(x:VR ρ s.heap b v)(h:Fr m b H=some ()):s.TypeIs v (Xe m).1/\∀ q,v=.ref q->∃ ob,s.heap.get? q=some ob/\ob.dict=none:=by
 have h:=(L9 h).1
 show s.TypeIs v (Qb m)/\_
 generalize Qb m=T at h
 cases x with
 | str y t z=>cases h;exact ⟨typeIs_str _ _ _,fun q e=>nomatch e⟩
 | @loc l p hp =>
  refine Abv (C:=fun T=>s.TypeIs (.ref p.1) T/\∀ q,Value.ref p.1=.ref q->∃ ob,s.heap.get? q=some ob/\ob.dict=none) h (fun xs hl=>Uc R hl hp) fun es hl=>?_
  refine Ae fun G kG=>?_
  refine ex1 (R.dictAt hl hp) fun xs zz=>Ap zz fun _ D _=>?_
  refine ex3 D fun o _ _ zz=>Ap zz fun g ex _=>?_
  refine kG ?_
  exact ⟨⟨_,g,ex.1⟩,fun q e=>by cases e;exact ⟨_,g,ex.2.1⟩⟩
 | _=>exact Ad h
theorem Aam{Φ:Funs}{Γ:Env'}{a:ME}{m:BM}{es:MEs}{o:Expr}{xs:List Expr}{apos pos:Pos}(hs:Cp o=true)(hp:B6 env xs)(hz:xs.length<=20)(hn:xs=[]->es=.nil)(hline:(apos.endLine == pos.line)=true)
 (x:Sim A P (eval o env) (Aj cx.T Φ a Γ) (Amb.vr)) (y:Sim A P (spliced (xs.map fun e=>(false,eval e env))) (evalEs cx.T Φ es Γ) (Amb.vrs))
 (k:∀ b v ms vs,ms.length=xs.length->Sim A ((Amb.vr b v).and (Amb.vrs ms vs)) (call (.builtin (Xe m).2) (v :: vs)) (bmV m b ms) (Amb.vr)) (hlen:∀ H ms H',evalEs cx.T Φ es Γ H=.ok ms H'->ms.length=xs.length) :
 Sim A P (eval (.Call (.Attribute o (Hf m).1 apos) xs [] pos) env) (Aj cx.T Φ (.bm a m es) Γ) (Amb.vr):=by
 intro H ρ s R p
 refine O1 (T:=(Xe m).1) (id:=(Xe m).2) hs hp hz hline (X3 m) (Acd m) (Ace m) (x H ρ s R p) fun b v H1 ρ1 s1 _ F1 R1 vr=>?_
 refine Gn.lookK fun _ fit=>?_
 obtain ⟨t1,t2⟩:=Acf R1 vr fit
 refine Gn.mono (K:=fun Q E s=>wpAny (model cx.prog cx.w) A (callWith pos (.builtin (Xe m).2) [v] (xs.map fun e=>(false,eval e env)) []) Q E s) ?_ fun Q E h=>⟨t1,t2,h⟩
 refine R9 hn R1 (y H1 ρ1 s1 R1 (P.st _ _ _ _ p F1)) fun ms vs H2 ρ2 s2 e2 F2 R2 vrs=>?_
 exact k b v ms vs (hlen _ _ _ e2) H2 ρ2 s2 R2 ⟨vr.step F2.step,vrs⟩
end
section
variable{A:Around}{H:Hp}{ρ:Rho}{s:Shared}
theorem VRs.single{h:Heap}{ms:List Val}{vs:List Value}(y:VRs ρ h ms vs)(hl:ms.length=1):∃ m u,ms=[m]/\vs=[u]/\VR ρ h m u:=by
 cases y with
 | nil=>cases hl
 | cons y0 y =>
  cases y with
  | nil=>exact ⟨_,_,rfl,rfl,y0⟩
  | cons _ _=>cases hl
set_option tactic.hygienic true in
theorem Ud(b:Val)(v:Value)(ms:List Val)(vs:List Value)(hl:ms.length=1):Sim A ((Amb.vr b v).and (Amb.vrs ms vs)) (call (.builtin "list.append") (v :: vs)) (bmV .append b ms) (Amb.vr):=by
 intro H ρ s R ⟨x,y⟩
 refine ex2 (VRs.single y hl) fun m u zz=>Ap zz fun zr2 zr3 y0=>?_;subst zr2;subst zr3
 cases x with
 | @loc l p hp =>
  show A8 A (match H[l]? with
   | some (.list xs)=>if xs.length < lid then Res.ok Val.none (H.set l (.list (xs++[m]))) else .bad
   | some (.dict es)=>.bad
   | _=>.bad) _ _ ρ s
  split
  · rename_i xs e
    refine Ae fun G kG=>?_
    refine ex2 (R.listAt e hp) fun ws n zz=>Cl zz fun hpp g r z=>?_
    refine kG ?_
    by_cases q:xs.length < lid
    · rw [if_pos q]
      rw [Ed] at q
      refine call_meets F.slot_list_append ⟨_,g,rfl⟩ F.entry_list_append (F.args_list_append_2 _ _) (list_append p.1 ws.toArray n u (Ig r z)) ⟨g,?_⟩
      exact Hk R hp hpp g (fun x=>x.push u) (by simpa using r.append (.one y0)) (by rw [List.length_append];exact q) fun _ _=>.none
    · rw [if_neg q];trivial
  · trivial
  · trivial
 | _=>trivial
set_option tactic.hygienic true in
theorem X4(b:Val)(v:Value)(ms:List Val)(vs:List Value)(hl:ms.length=0):Sim A ((Amb.vr b v).and (Amb.vrs ms vs)) (call (.builtin "list.clear") (v :: vs)) (bmV .clear b ms) (Amb.vr):=by
 intro H ρ s R ⟨x,y⟩
 match ms,hl,y with
 | [],_,.nil =>
  cases x with
  | @loc l p hp =>
   show A8 A (match H[l]? with
    | some (.list xs)=>Res.ok Val.none (H.set l (.list []))
    | some (.dict es)=>.bad
    | _=>.bad) _ _ ρ s
   split
   · rename_i xs e
     refine Ae fun G kG=>?_
     refine ex2 (R.listAt e hp) fun ws n zz=>Cl zz fun hpp g r z=>?_
     refine kG ?_
     refine call_meets F.slot_list_clear ⟨_,g,rfl⟩ F.entry_list_clear (F.args_list_clear_1 _) (AutoSeq1.list_clear_list_0 p.1 ws.toArray n (Ig r z)) ⟨g,?_⟩
     exact Hk R hp hpp g (fun _=>#[]) (by simpa using VRs.nil) (by simp) fun _ _=>.none
   · trivial
   · trivial
  | _=>trivial
set_option tactic.hygienic true in
theorem Afl(b:Val)(v:Value)(ms:List Val)(vs:List Value)(hl:ms.length=0):Sim A ((Amb.vr b v).and (Amb.vrs ms vs)) (call (.builtin "list.pop") (v :: vs)) (bmV .pop b ms) (Amb.vr):=by
 intro H ρ s R ⟨x,y⟩
 match ms,hl,y with
 | [],_,.nil =>
  cases x with
  | @loc l p hp =>
   show A8 A (match H[l]? with
    | some (.list xs)=>match xs.getLast? with
     | some v=>Res.ok v (H.set l (.list xs.dropLast))
     | none=>.bad
    | some (.dict es)=>.bad
    | _=>.bad) _ _ ρ s
   split
   · rename_i xs e
     refine ex2 (R.listAt e hp) fun ws n zz=>Cl zz fun hpp g r z=>?_
     split
     · rename_i m em
       rw [List.getLast?_eq_getElem?] at em
       refine ex1 (r.get em) fun u zz=>Ac zz fun eu vu=>?_
       have len:=r.length
       refine call_meets F.slot_list_pop ⟨_,g,rfl⟩ F.entry_list_pop (F.args_list_pop_1 _) (MeetsSeq.list_pop_last p.1 ws.toArray n u (by simpa [len] using eu) (Ig r z)) ⟨g,?_⟩
       refine Hk R hp hpp g (fun x=>x.eraseIdxIfInBounds (ws.toArray.size - 1)) ?_ (by rw [List.length_dropLast];exact o20 len z) fun h F=>vu.step F.step
       have e1:(ws.toArray.eraseIdxIfInBounds (ws.toArray.size - 1)).toList=ws.eraseIdx (ws.length - 1):=by simp
       have e2:∀ {α:Type} (l:List α),l.dropLast=l.eraseIdx (l.length - 1):=fun l=>by
        rw [List.dropLast_eq_take,List.eraseIdx_eq_take_drop_succ]
        rw [List.drop_eq_nil_of_le (by exact o21),List.append_nil]
       rw [e1,e2,<- len]
       exact r.eraseIdx _
     · trivial
   · trivial
   · trivial
  | _=>trivial
theorem Ue(b:Val)(v:Value)(ms:List Val)(vs:List Value)(hl:ms.length=0):Sim A ((Amb.vr b v).and (Amb.vrs ms vs)) (call (.builtin "str.rstrip") (v :: vs)) (bmV .rstrip b ms) (Amb.vr):=by
 intro H ρ s R ⟨x,y⟩
 match ms,hl,y with
 | [],_,.nil =>
  cases x with
  | str y t z =>
   show A8 A (if (Txt.rstrip y).length<=lid then Res.ok (Val.str (Txt.rstrip y)) H else .bad) _ _ ρ s
   by_cases q:(Txt.rstrip y).length<=lid
   · rw [if_pos q]
     rw [Ed] at q
     exact As R fun Q E k=>SC.rstrip (fun t' tk=>k _ _ (.str _ _ q)) z
   · rw [if_neg q];trivial
  | _=>simp only [bmV];(try split) <;> trivial
end
section
variable{K:Type}[DecidableEq K]{knd:HeapKind cx.prog cx.w K}{A:Around}{E:Value->Shared->Prop}{s:Shared}
theorem Nv{α β:Type}(f:α->β)(l:List α)(j:Nat):(l.map f).eraseIdx j=(l.eraseIdx j).map f:=by
 induction l generalizing j with
 | nil=>rfl
 | cons a l ih =>
  cases j with
  | zero=>rfl
  | succ j=>exact congrArg (f a :: ·) (ih j)
theorem Nw{d a:Addr}{xs:List (K × Addr × Value)}{k:K}{p:Addr × Value}{Q:Option DictEntry->Shared->Prop}(hu:knd.room A)(hkey:knd.is s.heap k a)(hm:s.heap.DictOfH knd d xs)(hp:atKey xs k=some p)(hz:xs.length<=sizeLine)
 (hQ:∀ j h',xs[j]?=some (k,p)->h'.DictOfH knd d (xs.eraseIdx j)->Heap.SameBut d s.heap h'->Q (some (entryOfKey knd (k,p))) { s with heap:=h',toks:=s.toks+knd.draws k }):wpAny (model cx.prog cx.w) A (Builtin.Dict.takeOut d (.ref a)) Q E s:=by
 refine Ae fun G kG=>?_
 refine ex3 hm fun o es ep zz=>Lx zz fun ho hc hd he his hn=>?_
 refine kG ?_
 have hes:es.size<=sizeLine:=by rw [size_of_entries he];exact hz
 unfold Builtin.Dict.takeOut
 try with_reducible refine wpAny_holding ?_
 refine zB (knd.pyHash hu hkey (zB (wpAny_dictFind_heap (s:={ s with toks:=s.toks+knd.draws k }) hu hkey ho hd he his hn ?_ ?_)))
 · intro hno
   rw [atKey_none_of_get hno] at hp;exact Ad hp
 · intro j q hj
   have e:=atKey_of_get hn hj
   rw [hp] at e;cases e
   refine zB (wpAny_dictEntries (s:={ s with toks:=s.toks+knd.draws k }) ho hd ?_)
   rw [entry_at he j,hj]
   refine zB (wpAny_updateDictKeys (hz:=hes) (s:={ s with toks:=s.toks+knd.draws k }) ho hd (zH (hQ j _ hj ⟨_,_,ep+1,Heap.get?_update_self _ ho (Obj.isFreed_of_dict (Obj.data_mapDictKeys hd _)),
    hc.mapDictKeys _,Obj.data_mapDictKeys hd _,?_,fun x hx=>knd.keeps (his x (List.mem_of_mem_eraseIdx hx)) ho hd (Heap.SameBut.update ..),?_⟩ (Heap.SameBut.update ..))))
   · obtain ⟨l⟩:=es
     simp only [List.eraseIdxIfInBounds_toArray]
     rw [show l=xs.map (entryOfKey knd) from he,Nv]
   · rw [<- Nv]
     exact hn.sublist (List.eraseIdx_sublist _ _)
theorem Md{d a:Addr}{xs:List (K × Addr × Value)}{k:K}{p:Addr × Value}{Q:Value->Shared->Prop}(hu:knd.room A.in1)(hkey:knd.is s.heap k a)(hm:s.heap.DictOfH knd d xs)(hp:atKey xs k=some p)(hz:xs.length<=sizeLine)
 (hQ:∀ j h',xs[j]?=some (k,p)->h'.DictOfH knd d (xs.eraseIdx j)->Heap.SameBut d s.heap h'->Q p.2 { s with heap:=h',toks:=s.toks+knd.draws k }):wpAny (model cx.prog cx.w) A (call (.builtin "dict.pop") [.ref d,.ref a]) Q E s:=by
 refine wpAny_call_entry F.slot_dict_pop hm.typeIs F.entry_dict_pop ?_ (F.args_dict_pop_2 _ _)
 have hm':=hm
 refine Ae fun G kG=>?_
 refine ex3 hm fun o es ep zz=>Lx zz fun ho hc hd he _ _=>?_
 refine kG ?_
 unfold Builtin.«dict.pop»
 refine zB ?_
 unfold Builtin.Dict.keyAndDefault
 refine zB (wpAny_notOrdered_dict hm'.typeIs ?_)
 refine zH ?_
 have ne:es.isEmpty=false:=by
  rw [Array.isEmpty_eq_false_iff_exists_mem]
  refine ex1 (Option.map_eq_some_iff.mp hp) fun x zz=>Ac zz fun hx _=>?_
  exact ⟨_,Array.mem_toList_iff.mp (by rw [he];exact List.mem_map.mpr ⟨x,List.mem_of_find?_eq_some hx,rfl⟩)⟩
 have hpart:(keyPart (.ref a)).isSome=false:=rfl
 simp only [hpart,Bool.false_eq_true,if_false]
 refine zB (wpAny_dictEntries ho hd (zB (zH ?_)))
 simp only [ne,Bool.false_eq_true,if_false]
 refine zB (Nw hu hkey hm' hp hz fun j h' hj hm2 hs=>?_)
 simp only [Option.isNone_some,Bool.false_eq_true,if_false]
 exact zB (wpAny_letGo (zH ⟨p.2,rfl,hQ j h' hj hm2 hs⟩))
end
section
variable{K:Type}[DecidableEq K]{knd:HeapKind cx.prog cx.w K}
theorem O6{h:Heap}{xs:List (K × Addr × Value)}{k:K}{a:Addr}{v:Value}(ks:∀ x∈xs,knd.is h x.1 x.2.1)(hk:knd.is h k a):∀ x∈storedH xs k a v,knd.is h x.1 x.2.1:=by
 intro x hx
 unfold storedH at hx
 by_cases q:(atKey xs k).isSome=true
 · rw [if_pos q] at hx
   refine ex1 (List.mem_map.mp hx) fun y zz=>Ac zz fun hy hr0=>?_;refine hr0▸?_
   unfold putAt
   by_cases e:y.1=k
   · rw [if_pos e];exact ks y hy
   · rw [if_neg e];exact ks y hy
 · rw [if_neg q] at hx
   rcases List.mem_append.mp hx with hx | hx
   · exact ks x hx
   · rw [List.mem_singleton.mp hx];exact hk
end
section
variable{A:Around}{P:Amb}{H:Hp}{ρ:Rho}{s:Shared}{h:Heap}
theorem DRs.length{es:List (Key × Val)}{xs:List (List Int × Addr × Value)}(r:DRs ρ h es xs):xs.length=es.length:=by
 induction r with
 | nil=>rfl
 | cons _ _ _ ih=>exact congrArg (·+1) ih
theorem Afm{k k':Key}(q:¬k'=k):¬([k'.1,k'.2]=[k.1,k.2]):=fun e=>q (by
 simp only [List.cons.injEq,and_true] at e
 exact Prod.ext e.1 e.2)
theorem DRs.put{es:List (Key × Val)}{xs:List (List Int × Addr × Value)}{k:Key}{a:Addr}{m:Val}{v:Value}(r:DRs ρ h es xs)(hn:(xs.map (·.1)).Nodup)(x:VR ρ h m v)(no:VR ρ h (Ab k) (.ref a)):DRs ρ h (Id es k m) (storedH xs [k.1,k.2] a v):=by
 induction r with
 | nil=>exact .cons x no .nil
 | @cons k' v' b y es xs a' n r ih =>
  rw [List.map_cons,List.nodup_cons] at hn
  by_cases q:k'=k
  · refine q▸?_
    have e1:storedH (([k'.1,k'.2],b,y) :: xs) [k'.1,k'.2] a v=([k'.1,k'.2],b,v) :: xs:=by
     unfold storedH
     rw [if_pos (by simp [PySem.atKey]),List.map_cons]
     congr 1
     · simp [putAt]
     · refine (List.map_congr_left fun z hz=>?_).trans (List.map_id _)
       unfold putAt
       rw [if_neg fun e=>hn.1 (List.mem_map.mpr ⟨z,hz,e⟩)];rfl
    rw [e1]
    show DRs ρ h (if k'=k' then _ else _) _
    rw [if_pos rfl]
    exact .cons x n r
  · have q':=Afm q
    have e2:PySem.atKey (([k'.1,k'.2],b,y) :: xs) [k.1,k.2]=PySem.atKey xs [k.1,k.2]:=by
     unfold PySem.atKey
     rw [List.find?_cons]
     simp only [decide_eq_false q']
    have e1:storedH (([k'.1,k'.2],b,y) :: xs) [k.1,k.2] a v=([k'.1,k'.2],b,y) :: storedH xs [k.1,k.2] a v:=by
     unfold storedH
     rw [e2]
     split
     · rw [List.map_cons];congr 1
       unfold putAt;rw [if_neg q']
     · rfl
    rw [e1]
    show DRs ρ h (if k'=k then _ else _) _
    rw [if_neg q]
    exact .cons a' n (ih hn.2)
theorem DRs.del{es:List (Key × Val)}{xs:List (List Int × Addr × Value)}{k:Key}{j:Nat}{p:Addr × Value}(r:DRs ρ h es xs)(hn:(xs.map (·.1)).Nodup)(hj:xs[j]?=some ([k.1,k.2],p)):DRs ρ h (Abo es k) (xs.eraseIdx j):=by
 induction r generalizing j with
 | nil=>exact Ad hj
 | @cons k' v' b y es xs a' n r ih =>
  rw [List.map_cons,List.nodup_cons] at hn
  show DRs ρ h (if k'=k then _ else _) _
  cases j with
  | zero =>
   have e:=Option.some.inj hj
   have:k'=k:=by
    have e:=congrArg Prod.fst e
    simp only [List.cons.injEq,and_true] at e
    exact Prod.ext e.1 e.2
   rw [if_pos this];exact r
  | succ j =>
   have hj':xs[j]?=some ([k.1,k.2],p):=hj
   have:¬k'=k:=fun e=>hn.1 (e▸List.mem_map.mpr ⟨_,zF hj',rfl⟩)
   rw [if_neg this]
   exact .cons a' n (ih hn.2 hj')
theorem DRs.sub{es:List (Key × Val)}{xs:List (List Int × Addr × Value)}{k:Key}{m:Val}(r:DRs ρ s.heap es xs)(h:Fj es k=some m):∃ p,PySem.atKey xs [k.1,k.2]=some p/\VR ρ s.heap m p.2:=by
 have a:=r.atKey k
 rw [h] at a
 cases e:PySem.atKey xs [k.1,k.2] with
 | none=>rw [e] at a;exact a.elim
 | some p=>rw [e] at a;exact ⟨p,rfl,a⟩
theorem O7(es:List (Key × Val))(k:Key)(v:Val):(Id es k v).length<=es.length+1:=by
 induction es with
 | nil=>exact zI _
 | cons e es ih =>
  show (if e.1=k then _ else _:List (Key × Val)).length<=_
  by_cases q:e.1=k
  · rw [if_pos q];exact Nat.le_succ _
  · rw [if_neg q];exact Nat.succ_le_succ ih
theorem O8(es:List (Key × Val))(k:Key):(Abo es k).length<=es.length:=by
 induction es with
 | nil=>exact zI _
 | cons e es ih =>
  show (if e.1=k then _ else _:List (Key × Val)).length<=_
  by_cases q:e.1=k
  · rw [if_pos q];exact Nat.le_succ _
  · rw [if_neg q];exact Nat.succ_le_succ ih
theorem Qm{l:Nat}{p:Addr × Addr}{es:List (Key × Val)}{xs:List (List Int × Addr × Value)}{h':Heap}{tk:Nat}(R:Rel H ρ s)(hl:ρ[l]?=some p)(hpp:p.2=p.1)(hm:h'.DictOfH (cellKind) p.1 xs)(hs:Heap.SameBut p.1 s.heap h')
 (hk:∀ x∈xs,(cellKind).is s.heap x.1 x.2.1) (r:DRs ρ s.heap es xs) (z:es.length<=sizeLine):Full ρ s.heap ρ h'/\Rel (H.set l (.dict es)) ρ { s with heap:=h',toks:=tk }:=by
 have hm':=hm
 refine Ae fun G kG=>?_
 refine ex3 hm fun o _ _ zz=>Ac zz fun e' _=>?_
 refine kG ?_
 have F:=Full.own ⟨p,zF hl,.inl rfl⟩ e' hs
 refine R.set hl (fun b ob eb n1 _=>by rw [hs.2 b n1];exact eb) (SameBut.live hs e') ?_
 obtain ⟨p1,p2⟩:=p
 dsimp only at hpp
 refine Eq.symm hpp▸?_
 exact .dict hm' (r.step F.step) z
theorem X5{env:Env}{Φ:Funs}{Γ:Env'}{pos:Pos}:Sim A P (eval (.Dict [] [] pos) env) (Aj cx.T Φ .dict Γ) (Amb.vr):=by
 intro H ρ s R p
 refine wpAny_Dict_empty ?_
 have kp:∀ b o,s.heap.get? b=some o->(s.heap.push { cls:=.type "dict",data:=.dict #[] }).get? b=some o:=fun b o e=>Heap.get?_push_of_some _ e
 obtain ⟨F,R'⟩:=R.alloc (tk:=s.toks) (o:=.dict []) (p:=(s.heap.objs.size,s.heap.objs.size)) kp ⟨Am _,Am _⟩
  (.dict (Heap.DictOfH.new _) .nil (Nat.zero_le _))
 refine ⟨_,F,R',?_⟩
 rw [R.len]
 exact VR.loc (p:=(s.heap.objs.size,s.heap.objs.size)) (by rw [List.getElem?_append_right (zI _)];simp)
set_option tactic.hygienic true in
theorem Acg(hu:A.units+100 < cLine)(b:Val)(v:Value)(ms:List Val)(vs:List Value)(hl:ms.length=1):Sim A ((Amb.vr b v).and (Amb.vrs ms vs)) (call (.builtin "dict.pop") (v :: vs)) (bmV .dpop b ms) (Amb.vr):=by
 intro H ρ s R ⟨x,y⟩
 refine ex2 (VRs.single y hl) fun m u zz=>Ap zz fun hm hv y0=>?_
 subst hm
 subst hv
 cases x with
 | @loc l p hp =>
  show A8 A (match H[l]? with
   | some (.list xs)=>.bad
   | some (.dict es)=>(match Es m with
    | some k=>(match Fj es k with
     | some v=>Res.ok v (H.set l (.dict (Abo es k)))
     | none=>.bad)
    | none=>.bad)
   | _=>.bad) _ _ ρ s
  cases e:H[l]? with
  | none=>trivial
  | some o =>
   cases o with
   | dict es =>
    show A8 A (match Es m with
     | some k=>(match Fj es k with
      | some v=>Res.ok v (H.set l (.dict (Abo es k)))
      | none=>.bad)
     | none=>.bad) _ _ ρ s
    cases ek:Es m with
    | none=>trivial
    | some k =>
     show A8 A (match Fj es k with
      | some v=>Res.ok v (H.set l (.dict (Abo es k)))
      | none=>.bad) _ _ ρ s
     cases eg:Fj es k with
     | none=>trivial
     | some r =>
      refine Ae fun G kG=>?_
      refine ex1 (R.dictAt e hp) fun xs zz=>Cl zz fun hpp D rr z=>?_
      refine ex1 (Qj y0 ek) fun bb zz=>Ap zz fun hr hk no=>?_
      refine ex1 (rr.sub eg) fun q zz=>Ac zz fun hq vr=>?_
      have D':=D
      refine ex3 D' fun _ _ _ zz=>Lx zz fun _ _ _ _ ks nd=>?_
      refine kG ?_
      refine Eq.symm hr▸?_
      refine Md (knd:=cellKind) (tupleKind_room_in1 (by exact o9 hu)) hk D hq (by rw [rr.length];exact z) fun j h' hj hm hs=>?_
      obtain ⟨F,R'⟩:=Qm (tk:=s.toks+(cellKind).draws [k.1,k.2]) R hp hpp hm hs (fun x hx=>ks x (List.mem_of_mem_eraseIdx hx)) (rr.del nd hj) (zC (O8 es k) z)
      exact ⟨ρ,F,R',vr.step F.step⟩
   | _=>trivial
 | _=>trivial
end
section
variable{sc:Scope}{ns:List (Option Str)}{a b c:ME}{e:Expr}{es:MEs}{op op1 op2:COp}
theorem Qn(h:ck N sc ns .none e=true):∃ k pos,e=.Constant .none k pos:=by
 obtain ⟨t,h⟩:=Aa h
 exact ⟨_,_,t.2.trans (congrArg (fun c=>Expr.Constant c t.1.2.1 t.1.2.2) (Abz h))⟩
theorem Qo{v:Bool}(h:ck N sc ns (.bool v) e=true):∃ k pos,e=.Constant (.bool v) k pos:=by
 obtain ⟨t,h⟩:=Aa h
 obtain ⟨u,h⟩:=Aa h
 exact ⟨_,_,t.2.trans (congrArg (fun c=>Expr.Constant c t.1.2.1 t.1.2.2) (u.2.trans (congrArg Const.bool (eq_of_beq h).symm)))⟩
theorem Uf{v:Int}(h:ck N sc ns (.int v) e=true):∃ k pos,e=.Constant (.int v) k pos:=by
 obtain ⟨t,h⟩:=Aa h
 obtain ⟨u,h⟩:=Aa h
 exact ⟨_,_,t.2.trans (congrArg (fun c=>Expr.Constant c t.1.2.1 t.1.2.2) (u.2.trans (congrArg Const.int (of_decide_eq_true h).symm)))⟩
theorem Ug{v:Str}(h:ck N sc ns (.str v) e=true):∃ k pos,e=.Constant (.str v) k pos/\v.length<=1000:=by
 obtain ⟨t,h⟩:=Aa h
 obtain ⟨u,h⟩:=Aa h
 exact ⟨_,_,t.2.trans (congrArg (fun c=>Expr.Constant c t.1.2.1 t.1.2.2) (u.2.trans (congrArg Const.str (of_decide_eq_true (an1 h)).symm))),of_decide_eq_true (an2 h)⟩
theorem X6{k:Nat}(h:ck N sc ns (.glob k) e=true):∃ x pos,e=.Name x pos/\Br sc x=true/\Dy N.globs x k=true:=by
 obtain ⟨t,h⟩:=Aa h
 exact ⟨_,_,t.2,an1 h,an2 h⟩
theorem Uh{k:Nat}(h:ck N sc ns (.var k) e=true):∃ x pos,e=.Name x pos/\Xr sc ns k x=true:=by
 obtain ⟨t,h⟩:=Aa h
 exact ⟨_,_,t.2,h⟩
theorem Ui{op:BOp}(h:ck N sc ns (.bin op a b) e=true):∃ l o r pos,e=.BinOp l o r pos/\Agz op o=true/\ck N sc ns a l=true/\ck N sc ns b r=true:=by
 obtain ⟨t,h⟩:=Aa h
 exact ⟨_,_,_,_,t.2,an1 (an1 h),an2 (an1 h),an2 h⟩
theorem Ach(h:ck N sc ns (.neg a) e=true):∃ x pos,e=.UnaryOp .USub x pos/\ck N sc ns a x=true:=by
 obtain ⟨t,h⟩:=Aa h
 exact ⟨_,_,t.2.trans (congrArg (fun o=>Expr.UnaryOp o t.1.2.1 t.1.2.2) (Abz (an1 h))),an2 h⟩
theorem Aci(h:ck N sc ns (.not a) e=true):∃ x pos,e=.UnaryOp .Not x pos/\ck N sc ns a x=true:=by
 obtain ⟨t,h⟩:=Aa h
 exact ⟨_,_,t.2.trans (congrArg (fun o=>Expr.UnaryOp o t.1.2.1 t.1.2.2) (Abz (an1 h))),an2 h⟩
theorem Acj(h:ck N sc ns (.and a b) e=true):∃ x y rest pos,e=.BoolOp .And (x :: y :: rest) pos/\ck N sc ns a x=true/\((rest=[]/\ck N sc ns b y=true)\/ck N sc ns b (.BoolOp .And (y :: rest) pos)=true):=by
 refine Ae fun G kG=>?_
 obtain ⟨t,h⟩:=Aa h
 obtain ⟨⟨⟨x,y,rest⟩,z2⟩,h2⟩:=Aa (an2 h)
 refine kG ?_
 refine ⟨x,y,rest,t.1.2.2,t.2.trans ((congrArg (fun o=>Expr.BoolOp o t.1.2.1 t.1.2.2) (Abz (an1 h))).trans (congrArg (fun o=>Expr.BoolOp .And o t.1.2.2) z2)),an1 h2,?_⟩
 cases rest with
 | nil=>exact .inl ⟨rfl,an2 h2⟩
 | cons _ _=>exact .inr (an2 h2)
theorem Afn(h:ck N sc ns (.or a b) e=true):∃ x y rest pos,e=.BoolOp .Or (x :: y :: rest) pos/\ck N sc ns a x=true/\((rest=[]/\ck N sc ns b y=true)\/ck N sc ns b (.BoolOp .Or (y :: rest) pos)=true):=by
 obtain ⟨t,h⟩:=Aa h
 obtain ⟨⟨⟨x,y,rest⟩,z2⟩,h2⟩:=Aa (an2 h)
 refine ⟨x,y,rest,t.1.2.2,t.2.trans ((congrArg (fun o=>Expr.BoolOp o t.1.2.1 t.1.2.2) (Abz (an1 h))).trans (congrArg (fun o=>Expr.BoolOp .Or o t.1.2.2) z2)),an1 h2,?_⟩
 cases rest with
 | nil=>exact .inl ⟨rfl,an2 h2⟩
 | cons _ _=>exact .inr (an2 h2)
theorem Uj(h:ck N sc ns (.cmp op a b) e=true):∃ l r pos,e=.Compare l [Jb op] [r] pos/\ck N sc ns a l=true/\ck N sc ns b r=true/\Ec r=true:=by
 obtain ⟨t,h⟩:=Aa h
 obtain ⟨u,h2⟩:=Aa (an2 h)
 exact ⟨_,_,_,t.2.trans ((congrArg (fun o=>Expr.Compare t.1.1 o t.1.2.2.1 t.1.2.2.2) (of_decide_eq_true (an1 h))).trans (congrArg (fun o=>Expr.Compare t.1.1 _ o t.1.2.2.2) u.2)),an1 (an1 h2),an2 (an1 h2),an2 h2⟩
theorem X7(h:ck N sc ns (.cmp2 op1 op2 a b c) e=true):∃ l m r pos,e=.Compare l [Jb op1,Jb op2] [m,r] pos/\ck N sc ns a l=true/\ck N sc ns b m=true/\ck N sc ns c r=true/\Ec r=true:=by
 obtain ⟨t,h⟩:=Aa h
 obtain ⟨u,h2⟩:=Aa (an2 h)
 exact ⟨_,_,_,_,t.2.trans ((congrArg (fun o=>Expr.Compare t.1.1 o t.1.2.2.1 t.1.2.2.2) (of_decide_eq_true (an1 h))).trans (congrArg (fun o=>Expr.Compare t.1.1 _ o t.1.2.2.2) u.2)),an1 (an1 (an1 h2)),an2 (an1 (an1 h2)),an2 (an1 h2),an2 h2⟩
theorem Ack(h:ck N sc ns (.sub a b) e=true):∃ v s pos,e=.Subscript v s pos/\ck N sc ns a v=true/\ck N sc ns b s=true:=by
 obtain ⟨t,h⟩:=Aa h
 exact ⟨_,_,_,t.2,an1 h,an2 h⟩
theorem Acl(h:ck N sc ns (.tup es) e=true):∃ xs k pos,e=.Tuple xs k pos/\ckEs N sc ns es xs=true/\xs.length<=1000:=by
 obtain ⟨t,h⟩:=Aa h
 exact ⟨_,_,_,t.2,an1 h,of_decide_eq_true (an2 h)⟩
theorem X8(h:ck N sc ns (.list es) e=true):∃ xs pos,e=.List xs pos/\ckEs N sc ns es xs=true/\xs.length<=1000:=by
 obtain ⟨t,h⟩:=Aa h
 exact ⟨_,_,t.2,an1 h,of_decide_eq_true (an2 h)⟩
theorem X9(h:ck N sc ns .dict e=true):∃ pos,e=.Dict [] [] pos:=by
 obtain ⟨t,h⟩:=Aa h
 exact ⟨t.1.2.2,t.2.trans (by rw [List.isEmpty_iff.mp (an1 h),List.isEmpty_iff.mp (an2 h)])⟩
theorem Yb{n:Nat}(h:ck N sc ns (.attr a n) e=true):∃ v y pos,e=.Attribute v y pos/\ck N sc ns a v=true/\Dy N.attrs y n=true/\Cp v=true:=by
 obtain ⟨t,h⟩:=Aa h
 exact ⟨_,_,_,t.2,an1 (an1 h),an2 (an1 h),an2 h⟩
theorem Qp{f:Nat}(h:ck N sc ns (.call f es) e=true):∃ x np xs pos,e=.Call (.Name x np) xs [] pos/\Br sc x=true/\Dy N.funs x f=true/\ckEs N sc ns es xs=true/\xs.length<=20:=by
 obtain ⟨t,h⟩:=Aa h
 exact ⟨_,_,_,_,t.2,an1 (an1 (an1 h)),an2 (an1 (an1 h)),an2 (an1 h),of_decide_eq_true (an2 h)⟩
theorem Acm{f:Nat}(h:ck N sc ns (.new f es) e=true):∃ x np xs pos,e=.Call (.Name x np) xs [] pos/\Br sc x=true/\Dy N.clss x f=true/\ckEs N sc ns es xs=true/\xs.length<=20:=by
 obtain ⟨t,h⟩:=Aa h
 exact ⟨_,_,_,_,t.2,an1 (an1 (an1 h)),an2 (an1 (an1 h)),an2 (an1 h),of_decide_eq_true (an2 h)⟩
theorem Uk{m:Nat}(h:ck N sc ns (.umeth a m es) e=true):∃ o y apos xs pos,e=.Call (.Attribute o y apos) xs [] pos/\ck N sc ns a o=true/\Dy N.meths y m=true/\ckEs N sc ns es xs=true/\xs.length<=20/\Cp o=true/\(apos.endLine == pos.line)=true:=by
 obtain ⟨t,h⟩:=Aa h
 exact ⟨_,_,_,_,_,t.2.1,an1 (an1 (an1 (an1 h))),an2 (an1 (an1 (an1 h))),an2 (an1 (an1 h)),of_decide_eq_true (an2 (an1 h)),an2 h,t.2.2⟩
theorem Afo{f:BF}(h:ck N sc ns (.bf f es) e=true):∃ x np xs pos,e=.Call (.Name x np) xs [] pos/\Br sc x=true/\(Gr f).1=x/\(Gr f).2=xs.length/\ckEs N sc ns es xs=true:=by
 obtain ⟨t,h⟩:=Aa h
 exact ⟨_,_,_,_,t.2,an1 (an1 (an1 h)),of_decide_eq_true (an2 (an1 (an1 h))),of_decide_eq_true (an2 (an1 h)),an2 h⟩
theorem Aan{m:BM}(h:ck N sc ns (.bm a m es) e=true):∃ o y apos xs pos,e=.Call (.Attribute o y apos) xs [] pos/\ck N sc ns a o=true/\(Hf m).1=y/\(Hf m).2=xs.length/\ckEs N sc ns es xs=true/\Cp o=true/\(apos.endLine == pos.line)=true:=by
 obtain ⟨t,h⟩:=Aa h
 exact ⟨_,_,_,_,_,t.2.1,an1 (an1 (an1 (an1 h))),of_decide_eq_true (an2 (an1 (an1 (an1 h)))),of_decide_eq_true (an2 (an1 (an1 h))),an2 (an1 h),an2 h,t.2.2⟩
theorem Kz{t:Ty}(h:ck N sc ns (.isinst a t) e=true):∃ f np x y yp pos,e=.Call (.Name f np) [x,.Name y yp] [] pos/\Br sc f=true/\f=("isinstance":Str)/\Br sc y=true/\ck N sc ns a x=true/\Akb N y t=true:=by
 refine Ae fun G kG=>?_
 obtain ⟨p,h⟩:=Aa h
 obtain ⟨u,h⟩:=Aa h
 obtain ⟨w,h⟩:=Aa h
 refine kG ?_
 exact ⟨_,_,_,_,_,_,p.2.trans (congrArg (fun xs=>Expr.Call (.Name p.1.1 p.1.2.1) xs [] p.1.2.2.2) (u.2.trans (congrArg (fun y=>[u.1.1,y]) w.2))),an1 (an1 (an1 (an1 h))),of_decide_eq_true (an2 (an1 (an1 (an1 h)))),an2 (an1 (an1 h)),an2 (an1 h),an2 h⟩
theorem Qq{elt it:ME}{cond:MEo}(h:ck N sc ns (.comp elt it cond) e=true):∃ el x px i ifs csc pos,e=.ListComp el [⟨.Name x px,i,ifs,0⟩] csc pos/\ck N sc ns it i=true/\Ec i=true/\Jz sc csc x=true /\
 ck N csc (Dz csc ns++[some x]) elt el=true/\ckC N csc (Dz csc ns++[some x]) cond ifs=true:=by
 obtain ⟨t,h⟩:=Aa h
 obtain ⟨u,h⟩:=Aa h
 exact ⟨_,_,_,_,_,_,_,t.2.trans (congrArg (fun g=>Expr.ListComp t.1.1 g t.1.2.2.1 t.1.2.2.2) u.2),an1 (an1 (an1 (an1 h))),an2 (an1 (an1 (an1 h))),an2 (an1 (an1 h)),an2 (an1 h),an2 h⟩
noncomputable def Ul(comp:Bool):Expr->Bool
 | .Constant ..=>true
 | .Name ..=>true
 | .BinOp ..=>true
 | .UnaryOp ..=>true
 | .BoolOp ..=>true
 | .Compare ..=>true
 | .Subscript ..=>true
 | .Tuple ..=>true
 | .List ..=>true
 | .Dict ..=>true
 | .Attribute ..=>true
 | .Call ..=>true
 | .ListComp ..=>comp
 | _=>false
noncomputable def Aao:ME->Bool
 | .comp ..=>true
 | _=>false
theorem Be{e e':Expr}{c:Bool}(h:e=e')(k:Ul c e'=true):Ul c e=true:=h▸k
theorem Um{m:ME}(h:ck N sc ns m e=true):Ul (Aao m) e=true:=by
 cases m with
 | none=>obtain ⟨t,_⟩:=Aa h;exact Be t.2 rfl
 | bool v=>obtain ⟨t,_⟩:=Aa h;exact Be t.2 rfl
 | int v=>obtain ⟨t,_⟩:=Aa h;exact Be t.2 rfl
 | str v=>obtain ⟨t,_⟩:=Aa h;exact Be t.2 rfl
 | glob k=>obtain ⟨t,_⟩:=Aa h;exact Be t.2 rfl
 | var k=>obtain ⟨t,_⟩:=Aa h;exact Be t.2 rfl
 | bin op a b=>obtain ⟨t,_⟩:=Aa h;exact Be t.2 rfl
 | neg a=>obtain ⟨t,_⟩:=Aa h;exact Be t.2 rfl
 | not a=>obtain ⟨t,_⟩:=Aa h;exact Be t.2 rfl
 | and a b=>obtain ⟨t,_⟩:=Aa h;exact Be t.2 rfl
 | or a b=>obtain ⟨t,_⟩:=Aa h;exact Be t.2 rfl
 | cmp op a b=>obtain ⟨t,_⟩:=Aa h;exact Be t.2 rfl
 | cmp2 op1 op2 a b c=>obtain ⟨t,_⟩:=Aa h;exact Be t.2 rfl
 | sub a i=>obtain ⟨t,_⟩:=Aa h;exact Be t.2 rfl
 | tup es=>obtain ⟨t,_⟩:=Aa h;exact Be t.2 rfl
 | list es=>obtain ⟨t,_⟩:=Aa h;exact Be t.2 rfl
 | dict=>obtain ⟨t,_⟩:=Aa h;exact Be t.2 rfl
 | attr a n=>obtain ⟨t,_⟩:=Aa h;exact Be t.2 rfl
 | call f es=>obtain ⟨t,_⟩:=Aa h;exact Be t.2 rfl
 | new f es=>obtain ⟨t,_⟩:=Aa h;exact Be t.2 rfl
 | umeth a m es=>obtain ⟨t,_⟩:=Aa h;exact Be t.2.1 rfl
 | bf f es=>obtain ⟨t,_⟩:=Aa h;exact Be t.2 rfl
 | bm a m es=>obtain ⟨t,_⟩:=Aa h;exact Be t.2.1 rfl
 | isinst a t=>obtain ⟨t,_⟩:=Aa h;exact Be t.2 rfl
 | comp elt it cond=>obtain ⟨t,_⟩:=Aa h;exact Be t.2 rfl
end
noncomputable def Ih:Expr->Bool
 | .Starred ..=>false
 | _=>true
theorem Bq{e:Expr}{es:List Expr}{env:Env}(h:Ih e=true):starEach (e :: es) env=(false,eval e env) :: starEach es env:=by
 cases e <;> first | rfl | exact Al h
theorem A9{sc:Scope}{ns:List (Option Str)}{m:ME}{e:Expr}(h:ck N sc ns m e=true):Ih e=true:=by
 have z:=Um h
 cases e <;> first | rfl | exact Al z
theorem B8{sc:Scope}{ns:List (Option Str)}{env:Env}:∀ {ms:MEs} {xs:List Expr},ckEs N sc ns ms xs=true->B6 env xs
 | .nil,[],_=>trivial
 | .nil,_ :: _,h=>by cases (show false=true from h)
 | .cons _ _,[],h=>by cases (show false=true from h)
 | .cons m ms,x :: xs,h=>by
  have h:=And.intro (an1 h) (an2 h)
  exact ⟨Bq (A9 h.1),B8 h.2⟩
theorem Gf{sc:Scope}{ns:List (Option Str)}{ms:MEs}(h:ckEs N sc ns ms []=true):ms=.nil:=by
 cases ms with
 | nil=>rfl
 | cons _ _=>cases (show false=true from h)
theorem Cg{T:Tab}{Φ:Funs}{Γ:Env'}{sc:Scope}{ns:List (Option Str)}:∀ {ms:MEs} {xs:List Expr} {H H':Hp} {vs:List Val},ckEs N sc ns ms xs=true->evalEs T Φ ms Γ H=.ok vs H'->vs.length=xs.length
 | .nil,[],H,H',vs,_,e=>by cases (show Res.ok [] H=.ok vs H' from e);rfl
 | .nil,_ :: _,_,_,_,h,_=>by cases (show false=true from h)
 | .cons _ _,[],_,_,_,h,_=>by cases (show false=true from h)
 | .cons m ms,x :: xs,H,H',vs,h,e=>by
  have h:=And.intro (an1 h) (an2 h)
  rw [Xn] at e
  cases e1:Aj T Φ m Γ H with
  | bad=>rw [C9 e1] at e;exact D4 e
  | exc c H1=>rw [E4 e1] at e;exact Ku e
  | ok v H1 =>
   rw [Du e1] at e
   cases e2:evalEs T Φ ms Γ H1 with
   | bad=>rw [C9 e2] at e;exact D4 e
   | exc c H2=>rw [E4 e2] at e;exact Ku e
   | ok vs' H2 =>
    rw [Du e2] at e
    cases e
    rw [List.length_cons,List.length_cons,Cg h.2 e2]
section
variable{A:Around}{P:Amb}{env:Env}{Φ:Funs}{Γ:Env'}
theorem Un:Sim A P (spliced (([]:List Expr).map fun e=>(false,eval e env))) (evalEs cx.T Φ .nil Γ) (Amb.vrs):=by
 intro H ρ s R p
 exact zH ⟨ρ,Full.refl _ _,R,.nil⟩
theorem Qr{m:ME}{ms:MEs}{e:Expr}{es:List Expr}(x:Sim A P (eval e env) (Aj cx.T Φ m Γ) (Amb.vr))(y:Sim A P (spliced (es.map fun e=>(false,eval e env))) (evalEs cx.T Φ ms Γ) (Amb.vrs)) :
 Sim A P (spliced ((e :: es).map fun e=>(false,eval e env))) (evalEs cx.T Φ (.cons m ms) Γ) (Amb.vrs):=by
 intro H ρ s R p
 refine A8.bindK (K':=fun Q E s=>wpAny (model cx.prog cx.w) A (spliced ((e :: es).map fun e=>(false,eval e env))) Q E s) (K:=fun v Q E s=>wpAny (model cx.prog cx.w) A (spliced (es.map fun e=>(false,eval e env))) (fun vs s'=>Q (v :: vs) s') E s) (x H ρ s R p) ?_ ?_ ?_
 · intro b v H1 ρ1 s1 _ F1 R1 vr
   refine A8.bindK (K':=fun Q E s=>wpAny (model cx.prog cx.w) A (spliced (es.map fun e=>(false,eval e env))) (fun vs s'=>Q (v :: vs) s') E s) (K:=fun vs Q E s=>Q (v :: vs) s) (y H1 ρ1 s1 R1 (P.st _ _ _ _ p F1)) ?_ ?_ ?_
   · intro bs vs H2 ρ2 s2 _ F2 R2 vrs
     exact ⟨ρ2,Full.refl _ _,R2,.cons (vr.step F2.step) vrs⟩
   · exact fun vs Q E Q' E' s h k _=>k _ _ h
   · exact fun Q E h=>h
 · exact fun v Q E Q' E' s h k1 k2=>zE h (fun _ _=>k1 _ _) k2
 · exact fun Q E h=>Calls.spliced_cons h
theorem Acn{ms:MEs}{es:List Expr}{k:Nat}{pos:Pos}(hp:B6 env es)(hz:es.length<=1000)(hlen:∀ H vs H',evalEs cx.T Φ ms Γ H=.ok vs H'->vs.length=es.length)(y:Sim A P (spliced (es.map fun e=>(false,eval e env))) (evalEs cx.T Φ ms Γ) (Amb.vrs)) :
 Sim A P (eval (.Tuple es k pos) env) (Aj cx.T Φ (.tup ms) Γ) (Amb.vr):=by
 intro H ρ s R p
 refine A8.bindK (K':=fun Q E s=>wpAny (model cx.prog cx.w) A (eval (.Tuple es k pos) env) Q E s) (K:=fun vs Q E s₁=>vs.length<=sizeLine/\Q (.ref s₁.heap.objs.size) { s₁ with heap:=s₁.heap.push (Qh vs 0) }) (y H ρ s R p) ?_ ?_ ?_
 · intro bs vs H1 ρ1 s1 e1 F1 R1 vrs
   have z:bs.length<=sizeLine:=by rw [hlen _ _ _ e1,sizeLine_eq];exact o22 hz
   have F:=Full.push ρ1 s1.heap (Qh vs 0)
   exact ⟨by rw [<- vrs.length];exact z,ρ1,F,R1.push _ _,.tup (Heap.get?_push_size _ rfl) (R1.fresh_not (Am _)) z (vrs.step F.step)⟩
 · exact fun vs Q E Q' E' s h k1 _=>⟨h.1,k1 _ _ h.2⟩
 · exact fun Q E h=>wpAny_Tuple (by rw [An pos hp];exact h)
theorem Yc{ms:MEs}{es:List Expr}{pos:Pos}(hp:B6 env es)(hz:es.length<=1000)(hlen:∀ H vs H',evalEs cx.T Φ ms Γ H=.ok vs H'->vs.length=es.length)(y:Sim A P (spliced (es.map fun e=>(false,eval e env))) (evalEs cx.T Φ ms Γ) (Amb.vrs)) :
 Sim A P (eval (.List es pos) env) (Aj cx.T Φ (.list ms) Γ) (Amb.vr):=by
 intro H ρ s R p
 refine A8.bindK (K':=fun Q E s=>wpAny (model cx.prog cx.w) A (eval (.List es pos) env) Q E s) (K:=fun vs Q E s₁=>vs.length<=sizeLine/\Q (.ref s₁.heap.objs.size) { s₁ with heap:=s₁.heap.push (Bp vs 0) }) (y H ρ s R p) ?_ ?_ ?_
 · intro bs vs H1 ρ1 s1 e1 F1 R1 vrs
   have z:bs.length<=sizeLine:=by rw [hlen _ _ _ e1,sizeLine_eq];exact o22 hz
   refine Gn.andK (by rw [<- vrs.length];exact z) ?_
   exact R1.newList s1.toks vrs z
 · exact fun vs Q E Q' E' s h k1 _=>⟨h.1,k1 _ _ h.2⟩
 · exact fun Q E h=>wpAny_List (by rw [An pos hp];exact h)
end
structure FullS(env:Env)(ρ:Rho)(h:Heap)(ρ':Rho)(h':Heap):Prop where
 grow:J1 ρ h ρ'
 keep:∀ b o,h.get? b=some o->¬Av ρ b->b≠env.locals->(∀ y,env.cells.lookup y≠some b)->∃ o',h'.get? b=some o'/\D5 o o'
 live:E3 h h'
theorem Full.toS{env:Env}{ρ ρ':Rho}{h h':Heap}(x:Full ρ h ρ' h'):FullS env ρ h ρ' h':=⟨x.grow,fun b o e n _ _=>x.keep b o e n,x.live⟩
theorem FullS.refl(env:Env)(ρ:Rho)(h:Heap):FullS env ρ h ρ h:=(Full.refl ρ h).toS
theorem FullS.trans{env:Env}{ρ ρ' ρ'':Rho}{h h' h'':Heap}(x:FullS env ρ h ρ' h')(y:FullS env ρ' h' ρ'' h''):FullS env ρ h ρ'' h'' :=
 ⟨x.grow.trans y.grow x.live,fun b o e n n1 n2=>by
  refine ex1 (x.keep b o e n n1 n2) fun o' zz=>Ac zz fun e' u=>?_
  refine ex1 (y.keep b o' e' (x.grow.not n e) n1 n2) fun o'' zz=>Ac zz fun e'' u'=>?_
  exact ⟨o'',e'',u.trans u'⟩,x.live.trans y.live⟩
section
variable{A:Around}{env:Env}{sc:Scope}{ns:List (Option Str)}
theorem EnvSt.notLoc{ρ:Rho}{h:Heap}(x:EnvSt env sc ρ h){b:Addr}{o:Obj}(e:h.get? b=some o)(n:∀ es k,o.data≠.dict es k):b≠env.locals:=fun q=>by
 refine ex1 x.loc fun m zz=>ex3 zz fun ob es ep zz=>Ap zz fun e' d _=>?_
 rw [<- q,e] at e';cases e'
 exact n _ _ d
theorem EnvSt.notCell{ρ:Rho}{h:Heap}(x:EnvSt env sc ρ h){b:Addr}{o:Obj}(e:h.get? b=some o)(n:∀ v,o.data≠.cell v)(y:Str):env.cells.lookup y≠some b:=fun q=>by
 obtain ⟨⟨v,ob,e',d⟩,_⟩:=x.cells y b q
 rw [e] at e';cases e'
 exact n _ d
theorem FullS.step{ρ ρ':Rho}{h h':Heap}(x:EnvSt env sc ρ h)(F:FullS env ρ h ρ' h'):Step ρ h ρ' h':=by
 refine ⟨let ⟨e,h1,_⟩:=F.grow;⟨e,h1⟩,fun b o e f n=>⟨?_,F.grow.not n e⟩,fun b o C e c n=>?_⟩
 · obtain ⟨o',e',u⟩:=F.keep b o e n (x.notLoc e f.notDict) (x.notCell e fun v q=>by rcases f with ⟨_,_,_,f⟩ | ⟨_,_,f⟩ <;> rw [q] at f <;> cases f)
   rw [e',u.exact f.notDict]
 · obtain ⟨o',e',u⟩:=F.keep b o e n (x.notLoc e c.notDict) (x.notCell e fun v q=>by obtain ⟨_,⟨_,f⟩,_⟩:=c;rw [q] at f;cases f)
   rw [u.exact c.notDict] at e'
   exact ⟨o,e',c,F.grow.not n e⟩
noncomputable def Bs(A:Around)(env:Env)(sc:Scope)(ns:List (Option Str))(r:ResS)(t:Sem Flow)(ρ:Rho)(s:Shared):Prop :=
 match r with
 | .bad=>True
 | .next Γ' H'=>wpAny (model cx.prog cx.w) A t (fun f s'=>f=.next/\∃ ρ',FullS env ρ s.heap ρ' s'.heap/\Rel H' ρ' s'/\EnvOk env sc ns Γ' ρ' s'.heap) (fun _ _=>False) s
 | .ret v H'=>wpAny (model cx.prog cx.w) A t (fun f s'=>∃ v' ρ',f=.ret v'/\FullS env ρ s.heap ρ' s'.heap/\Rel H' ρ' s'/\(VR ρ' s'.heap v v'/\EnvSt env sc ρ' s'.heap)) (fun _ _=>False) s
 | .exc c Γ' H'=>wpAny (model cx.prog cx.w) A t (fun _ _=>False) (fun e s'=>∃ ρ',FullS env ρ s.heap ρ' s'.heap/\Rel H' ρ' s'/\EnvOk env sc ns Γ' ρ' s'.heap/\Flying ρ' s.heap s'.heap c e) s
noncomputable def Gx(A:Around)(l:List Env)(env:Env)(sc:Scope)(ns:List (Option Str))(t:Sem Flow)(m:Env'->Hp->ResS):Prop :=
 ∀ (Γ:Env') (H:Hp) (ρ:Rho) (s:Shared),Rel H ρ s->EnvOk env sc ns Γ ρ s.heap->Aw l ρ s.heap->Bs A env sc ns (m Γ H) t ρ s
theorem Bs.bind{α β:Type}{t:Sem α}{m:M β}{V:β->α->Amb}{Γ:Env'}{H:Hp}{ρ:Rho}{s:Shared}{t':Sem Flow}{g:β->Hp->ResS}{K:α->Sem Flow}(e0:EnvOk env sc ns Γ ρ s.heap)(x:A8 A (m H) t V ρ s)
 (y:∀ b a H' ρ' s',m H=.ok b H'->Full ρ s.heap ρ' s'.heap->Rel H' ρ' s'->EnvOk env sc ns Γ ρ' s'.heap->(V b a).P ρ' s'.heap->Bs A env sc ns (g b H') (K a) ρ' s')
 (k:∀ Q E,wpAny (model cx.prog cx.w) A t (fun a s'=>wpAny (model cx.prog cx.w) A (K a) Q E s') E s->wpAny (model cx.prog cx.w) A t' Q E s) :
 Bs A env sc ns (Gm m Γ g H) t' ρ s:=by
 unfold Gm
 cases e:m H with
 | bad=>trivial
 | exc c H' =>
  rw [e] at x
  refine k _ _ (zE x (fun _ _ q=>q.elim) fun ex s' ⟨ρ',F,R,fl⟩=>⟨ρ',F.toS,R,e0.full F,fl⟩)
 | ok b H' =>
  rw [e] at x
  show Bs A env sc ns (g b H') t' ρ s
  cases e2:g b H' with
  | bad=>trivial
  | next Γ2 H2 =>
   refine k _ _ (zE x (fun a s' ⟨ρ',F,R,v⟩=>?_) fun _ _ q=>q.elim)
   have z:=y b a H' ρ' s' e F R (e0.full F) v
   rw [e2] at z
   exact zE z (fun f s'' ⟨h1,ρ'',F',R',e'⟩=>⟨h1,ρ'',F.toS.trans F',R',e'⟩) fun _ _ q=>q.elim
  | ret v2 H2 =>
   refine k _ _ (zE x (fun a s' ⟨ρ',F,R,v⟩=>?_) fun _ _ q=>q.elim)
   have z:=y b a H' ρ' s' e F R (e0.full F) v
   rw [e2] at z
   exact zE z (fun f s'' ⟨v',ρ'',h1,F',R',e'⟩=>⟨v',ρ'',h1,F.toS.trans F',R',e'⟩) fun _ _ q=>q.elim
  | exc c2 Γ2 H2 =>
   refine k _ _ (zE x (fun a s' ⟨ρ',F,R,v⟩=>?_) fun _ _ q=>q.elim)
   have z:=y b a H' ρ' s' e F R (e0.full F) v
   rw [e2] at z
   exact zE z (fun _ _ q=>q) fun ex s'' ⟨ρ'',F',R',e',fl⟩=>⟨ρ'',F.toS.trans F',R',e',fl.older F.live⟩
theorem D7{Γ:Env'}{H:Hp}{ρ:Rho}{s:Shared}{i:Nat}{y:Str}{mv:Val}{v:Value}{Q:Unit->Shared->Prop}{E:Value->Shared->Prop}(hlen:Γ.length=ns.length)(hnd:∀ (i j:Nat) (y:Str),ns[i]?=some (some y)->ns[j]?=some (some y)->i=j)
 (R:Rel H ρ s) (e0:EnvOk env sc ns Γ ρ s.heap) (ho:Fn sc ns i y=true) (hv:VR ρ s.heap mv v)
 (k:∀ h' tk,FullS env ρ s.heap ρ h'->Rel H ρ { s with heap:=h',toks:=tk }->EnvOk env sc ns (Γ.set i (some mv)) ρ h' ->
  (∃ q o,((sc.names.lookup y=some .local/\q=env.locals)\/(sc.names.lookup y=some .cell/\env.cells.lookup y=some q))/\Heap.SameBut q s.heap h'/\h'.get? q=some o)->Q () { s with heap:=h',toks:=tk }) :
 wpAny (model cx.prog cx.w) A (storeName env y v) Q E s:=by
 have hown:(sc.names.lookup y=some .local\/sc.names.lookup y=some .cell)/\ns[i]?=some (some y):=by
  exact ⟨Tt (an1 ho),of_decide_eq_true (an2 ho)⟩
 obtain ⟨hk,hi⟩:=hown
 have hiΓ:i < Γ.length:=by rw [hlen];exact (List.getElem?_eq_some_iff.mp hi).1
 have set_i:(Γ.set i (some mv))[i]?=some (some mv):=by rw [List.getElem?_set_self hiΓ]
 have set_j:∀ j,j≠i->(Γ.set i (some mv))[j]?=Γ[j]?:=fun j hj=>List.getElem?_set_ne (fun q=>hj q.symm)
 rcases hk with hk | hk
 · have kd:env.kindOf y=some .local:=e0.st.kinds y _ hk
   obtain ⟨m,hm⟩:=e0.st.loc
   refine wpAny_storeName_local kd hm (fun h' hn hs=>?_) (by rw [e0.st.fn];rfl)
   refine ex3 (id hm) fun o es ep zz=>Ap zz fun eo d _=>?_
   refine ex3 (id hn) fun o' es' ep' zz=>Ap zz fun eo' d' _=>?_
   have n1:¬Fo o:=fun f=>f.notDict _ _ d
   have n2:∀ C,¬C8 o C:=fun C f=>f.notDict _ _ d
   have St:Step ρ s.heap ρ h':=Step.but eo' eo hs n1 n2
   have notc:∀ z c,env.cells.lookup z=some c->c≠env.locals:=fun z c hc q=>by
    obtain ⟨⟨v,ob,e',dc⟩,_⟩:=e0.st.cells z c hc
    rw [q,eo] at e';cases e'
    rw [d] at dc;cases dc
   refine (fun a b c=>k h' (s.toks+1) a b c ⟨env.locals,o',.inl ⟨hk,rfl⟩,hs,eo'⟩) ⟨J1.refl _ _,fun b ob eb _ nb _=>⟨ob,by rw [hs.2 b nb];exact eb,.refl ob⟩,SameBut.live hs eo'⟩ (R.but eo' eo hs n1 n2 e0.st.locN e0.st.locB) ⟨?_,by rw [List.length_set];exact hlen,?_⟩
   · refine ⟨e0.st.fn,e0.st.glob,e0.st.blt,e0.st.kinds,⟨_,hn⟩,e0.st.locN,e0.st.locB,fun z c hc=>?_,e0.st.hasCell,e0.st.apart⟩
     refine Ap (e0.st.cells z c hc) fun zn0 c1 c2=>?_;obtain ⟨u,hu⟩:=zn0
     exact ⟨⟨u,Bj hu fun ob eb=>⟨ob,by rw [hs.2 c (notc z c hc)];exact eb,rfl⟩⟩,c1,c2⟩
   · intro j z mz hj hz
     by_cases q:j=i
     · subst q
       rw [set_i] at hz;cases hz
       rw [hi] at hj;cases hj
       exact ⟨v,.inl ⟨kd,_,hn,by simp⟩,hv.step St⟩
     · rw [set_j j q] at hz
       refine ex1 (e0.vals j z mz hj hz) fun u zz=>Ac zz fun hu ru=>?_
       have zy:z≠y:=fun e=>q (hnd j i y (e▸hj) hi)
       refine ⟨u,?_,ru.step St⟩
       rcases hu with ⟨kz,m',hm',ez⟩ | ⟨kz,c,hc,ez⟩
       · refine .inl ⟨kz,_,hn,?_⟩
         refine Ae fun G kG=>?_
         refine ex3 hm' fun o2 es2 ep2 zz=>Cl zz fun eo2 d2 _ f2=>?_
         refine ex3 hm fun o3 es3 ep3 zz=>Cl zz fun eo3 d3 _ f3=>?_
         refine kG ?_
         rw [eo2] at eo3;cases eo3
         rw [d2] at d3;cases d3
         simp only [if_neg zy]
         rw [<- f3 z,f2 z];exact ez
       · exact .inr ⟨kz,c,hc,Bj ez fun ob eb=>⟨ob,by rw [hs.2 c (notc z c hc)];exact eb,rfl⟩⟩
 · have kd:env.kindOf y=some .cell:=e0.st.kinds y _ hk
   refine Ae fun G kG=>?_
   obtain ⟨c,hc⟩:=e0.st.hasCell y (.inl hk)
   refine Ap (e0.st.cells y c hc) fun zn0 cn cb=>?_;obtain ⟨u0,hu0⟩:=zn0
   refine kG ?_
   refine wpAny_storeName_cell e0.st.fn kd hc hu0 fun h' hn hs=>?_
   refine Ae fun G kG=>?_
   refine ex1 (id hu0) fun o zz=>Ac zz fun eo d=>?_
   refine ex1 (id hn) fun o' zz=>Ac zz fun eo' d'=>?_
   refine kG ?_
   have n1:¬Fo o:=fun f=>by rcases f with ⟨_,_,_,f⟩ | ⟨_,_,f⟩ <;> rw [d] at f <;> cases f
   have n2:∀ C,¬C8 o C:=fun C f=>by refine Ap f fun _ zn1 _=>?_;obtain ⟨_,f⟩:=zn1;rw [d] at f;cases f
   have St:Step ρ s.heap ρ h':=Step.but eo' eo hs n1 n2
   have notl:env.locals≠c:=fun q=>by
    refine ex1 e0.st.loc fun m zz=>ex3 zz fun ob es ep zz=>Ap zz fun e' dl _=>?_
    rw [q,eo] at e';cases e'
    rw [d] at dl;cases dl
   have locK:∀ ob,s.heap.get? env.locals=some ob->∃ o',h'.get? env.locals=some o'/\o'.data=ob.data:=fun ob eb=>⟨ob,by rw [hs.2 _ notl];exact eb,rfl⟩
   refine (fun a b c'=>k h' s.toks a b c' ⟨c,o',.inr ⟨hk,hc⟩,hs,eo'⟩) ⟨J1.refl _ _,fun b ob eb _ _ nb=>⟨ob,by rw [hs.2 b (fun q=>nb y (q▸hc))];exact eb,.refl ob⟩,SameBut.live hs eo'⟩ (R.but eo' eo hs n1 n2 cn cb) ⟨?_,by rw [List.length_set];exact hlen,?_⟩
   · obtain ⟨m,hm⟩:=e0.st.loc
     refine ⟨e0.st.fn,e0.st.glob,e0.st.blt,e0.st.kinds,⟨m,Bh hm locK⟩,e0.st.locN,e0.st.locB,fun z c' hc'=>?_,e0.st.hasCell,e0.st.apart⟩
     refine Ap (e0.st.cells z c' hc') fun zn0 c1 c2=>?_;obtain ⟨u,hu⟩:=zn0
     by_cases q:c'=c
     · subst q;exact ⟨⟨_,hn⟩,c1,c2⟩
     · exact ⟨⟨u,Bj hu fun ob eb=>⟨ob,by rw [hs.2 c' q];exact eb,rfl⟩⟩,c1,c2⟩
   · intro j z mz hj hz
     by_cases q:j=i
     · subst q
       rw [set_i] at hz;cases hz
       rw [hi] at hj;cases hj
       exact ⟨v,.inr ⟨.inl kd,c,hc,hn⟩,hv.step St⟩
     · rw [set_j j q] at hz
       refine ex1 (e0.vals j z mz hj hz) fun u zz=>Ac zz fun hu ru=>?_
       have zy:z≠y:=fun e=>q (hnd j i y (e▸hj) hi)
       refine ⟨u,?_,ru.step St⟩
       rcases hu with ⟨kz,m',hm',ez⟩ | ⟨kz,c',hc',ez⟩
       · exact .inl ⟨kz,m',Bh hm' locK,ez⟩
       · have cc:c'≠c:=fun e=>zy (e0.st.apart z y c' hc' (e▸hc))
         exact .inr ⟨kz,c',hc',Bj ez fun ob eb=>⟨ob,by rw [hs.2 c' cc];exact eb,rfl⟩⟩
end
structure Off(ρ:Rho)(h g g':Heap):Prop where
 old:∀ b o o0,g.get? b=some o->h.get? b=some o0->∃ o',g'.get? b=some o'/\D5 o o'
 own:∀ b o,g.get? b=some o->Av ρ b->g'.get? b=some o
 base:∀ b o o0,g.get? b=some o->cx.h₀.get? b=some o0->g'.get? b=some o
 fix:∀ b o,g.get? b=some o->Fo o->g'.get? b=some o
 exc:∀ b o C,g.get? b=some o->C8 o C->∃ o',g'.get? b=some o'/\C8 o' C
 cell:∀ b o v,g.get? b=some o->o.data=.cell v->g'.get? b=some o
 dict:∀ b o es n,g.get? b=some o->o.data=.dict es n->∃ o',g'.get? b=some o'/\D5 o o'
 live:E3 g g'
section
variable{ρ ρ₀:Rho}{h g g' g'':Heap}{H:Hp}{s:Shared}{env:Env}{sc:Scope}{ns:List (Option Str)}{Γ:Env'}{l:List Env}
theorem Off.refl:Off ρ h g g:=⟨fun _ o _ e _=>⟨o,e,.refl o⟩,fun _ _ e _=>e,fun _ _ _ e _=>e,fun _ _ e _=>e,fun _ o _ e x=>⟨o,e,x⟩,fun _ _ _ e _=>e,fun _ o _ _ e _=>⟨o,e,.refl o⟩,.refl g⟩
theorem Off.trans(x:Off ρ h g g')(y:Off ρ h g' g''):Off ρ h g g'':=by
 refine ⟨fun b o o0 e e0=>?_,fun b o e w=>y.own b o (x.own b o e w) w,fun b o o0 e e0=>y.base b o o0 (x.base b o o0 e e0) e0,fun b o e f=>y.fix b o (x.fix b o e f) f,fun b o C e f=>?_,fun b o v e d=>y.cell b o v (x.cell b o v e d) d,fun b o es n e d=>?_,x.live.trans y.live⟩
 · refine ex1 (x.old b o o0 e e0) fun o1 zz=>Ac zz fun e1 u1=>?_
   refine ex1 (y.old b o1 o0 e1 e0) fun o2 zz=>Ac zz fun e2 u2=>?_
   exact ⟨o2,e2,u1.trans u2⟩
 · refine ex1 (x.exc b o C e f) fun o1 zz=>Ac zz fun e1 f1=>?_
   exact y.exc b o1 C e1 f1
 · refine ex1 (x.dict b o es n e d) fun o1 zz=>Ac zz fun e1 u1=>?_
   refine ex1 (y.dict b o1 es n e1 (u1.data.trans d)) fun o2 zz=>Ac zz fun e2 u2=>?_
   exact ⟨o2,e2,u1.trans u2⟩
theorem Off.step(x:Off ρ h g g'):Step ρ g ρ g':=⟨⟨[],by simp⟩,fun b o e f n=>⟨x.fix b o e f,n⟩,fun b o C e c n=>by refine ex1 (x.exc b o C e c) fun o' zz=>Ac zz fun e' c'=>?_;exact ⟨o',e',c',n⟩⟩
theorem Off.rel{h':Heap}(x:Off ρ h s.heap h')(R:Rel H ρ s):Rel H ρ { s with heap:=h' } :=
 R.same (tk:=s.toks) x.step (fun b o w e=>x.own b o e w) fun b o e=>x.base b o o (R.base b o e) e
theorem Off.full(x:Off ρ h g g')(F:Full ρ₀ h ρ g):Full ρ₀ h ρ g':=⟨F.grow,fun b o e n=>by
 refine Ae fun G kG=>?_
 refine ex1 (F.keep b o e n) fun o1 zz=>Ac zz fun e1 u1=>?_
 refine ex1 (x.old b o1 o e1 e) fun o2 zz=>Ac zz fun e2 u2=>?_
 refine kG ?_
 exact ⟨o2,e2,u1.trans u2⟩,F.live.trans x.live⟩
theorem Off.fullS(x:Off ρ h g g')(F:FullS env ρ₀ h ρ g):FullS env ρ₀ h ρ g':=⟨F.grow,fun b o e n n1 n2=>by
 refine ex1 (F.keep b o e n n1 n2) fun o1 zz=>Ac zz fun e1 u1=>?_
 refine ex1 (x.old b o1 o e1 e) fun o2 zz=>Ac zz fun e2 u2=>?_
 exact ⟨o2,e2,u1.trans u2⟩,F.live.trans x.live⟩
theorem Off.nsK(x:Off ρ h g g'){a:Addr}{m:Str->Option Value}(n:g.Ns a m):g'.Ns a m:=by
 refine ex3 n fun o es ep zz=>Ap zz fun e d r=>?_
 refine ex1 (x.dict a o _ _ e d) fun o' zz=>Ac zz fun e' u=>?_
 exact ⟨o',es,ep,e',u.data.trans d,r⟩
theorem Off.isCell(x:Off ρ h g g'){a:Addr}{v:Option Value}(n:g.IsCell a v):g'.IsCell a v:=by
 refine ex1 n fun o zz=>Ac zz fun e d=>?_
 exact ⟨o,x.cell a o _ e d,d⟩
theorem Off.envK(x:Off ρ h g g')(w:EnvOk env sc ns Γ ρ g):EnvOk env sc ns Γ ρ g':=by
 obtain ⟨m,hm⟩:=w.st.loc
 refine ⟨⟨w.st.fn,w.st.glob,w.st.blt,w.st.kinds,⟨m,x.nsK hm⟩,w.st.locN,w.st.locB,fun y c hc=>?_,w.st.hasCell,w.st.apart⟩,w.len,fun i y mv hi hm=>?_⟩
 · refine Ap (w.st.cells y c hc) fun zn0 n b=>?_;obtain ⟨v,hv⟩:=zn0
   exact ⟨⟨v,x.isCell hv⟩,n,b⟩
 · refine ex1 (w.vals i y mv hi hm) fun v zz=>Ac zz fun hv r=>?_
   refine ⟨v,?_,r.step x.step⟩
   rcases hv with ⟨k,m,hm,e⟩ | ⟨k,c,hc,e⟩
   · exact .inl ⟨k,m,x.nsK hm,e⟩
   · exact .inr ⟨k,c,hc,x.isCell e⟩
theorem Off.frames(x:Off ρ h g g')(w:Aw l ρ g):Aw l ρ g':=fun env he=>by
 refine Ae fun G kG=>?_
 refine Ac (w env he) fun k zz=>ex2 zz fun L o zz=>Ep zz fun h1 h2 h3 zn6 h6=>?_;obtain ⟨es,n,h5⟩:=zn6
 refine ex1 (x.dict L o es n h3 h5) fun o' zz=>Ac zz fun e' u=>?_
 refine kG ?_
 exact ⟨k,L,o',h1,h2,e',⟨es,n,u.data.trans h5⟩,h6⟩
theorem Off.push(o:Obj):Off ρ h g (g.push o):=by
 have k:∀ b o',g.get? b=some o'->(g.push o).get? b=some o':=fun b o' e=>Heap.get?_push_of_some o e
 exact ⟨fun b o _ e _=>⟨o,k b o e,.refl o⟩,fun b o e _=>k b o e,fun b o _ e _=>k b o e,fun b o e _=>k b o e,fun b o _ e x=>⟨o,k b o e,x⟩,fun b o _ e _=>k b o e,fun b o _ _ e _=>⟨o,k b o e,.refl o⟩,fun b o e=>⟨o,k b o e⟩⟩
theorem Off.upd{a:Addr}{o:Obj}{vs:Array Value}{f:Array Value->Array Value}(e:g.get? a=some o)(d:o.data=.fields vs)(hn:h.get? a=none)(hb:cx.h₀.get? a=none)(no:¬Av ρ a)(nf:¬Fo o):Off ρ h g (g.update a (Obj.mapFields f)):=by
 have self:=Heap.get?_update_self (h:=g) (Obj.mapFields f) e (Obj.isFreed_of_fields (Obj.data_mapFields d f))
 have k:∀ b o',b≠a->g.get? b=some o'->(g.update a (Obj.mapFields f)).get? b=some o':=fun b o' n e'=>(Heap.get?_update_other _ _ (Ne.symm n)).trans e'
 have is:∀ b o',g.get? b=some o'->b=a->o'=o:=fun b o' e' q=>by rw [q,e] at e';cases e';rfl
 refine ⟨fun b ob o0 eb e0=>⟨ob,k b ob (fun q=>by rw [q,hn] at e0;cases e0) eb,.refl ob⟩,fun b ob eb w=>k b ob (fun q=>no (q▸w)) eb,fun b ob o0 eb e0=>k b ob (fun q=>by rw [q,hb] at e0;cases e0) eb,
  fun b ob eb fx=>k b ob (fun q=>nf (is b ob eb q▸fx)) eb,fun b ob C eb x=>?_,fun b ob v eb db=>k b ob (fun q=>by rw [is b ob eb q,d] at db;cases db) eb,fun b ob es n eb db=>⟨ob,k b ob (fun q=>by rw [is b ob eb q,d] at db;cases db) eb,.refl ob⟩,fun b ob eb=>?_⟩
 · by_cases q:b=a
   · subst q
     rw [e] at eb;cases eb
     exact ⟨_,self,(Obj.cls_mapFields _ _).trans x.1,⟨_,Obj.data_mapFields d f⟩,by obtain ⟨c,dd,dt,sl⟩:=o;cases d;exact x.2.2⟩
   · exact ⟨ob,k b ob q eb,x⟩
 · by_cases q:b=a
   · refine Eq.symm q▸?_;exact ⟨_,self⟩
   · exact ⟨ob,k b ob q eb⟩
theorem Off.slots{S:List Addr}(x:Heap.SlotsOnly S g g')(fr:∀ b∈S,cx.h₀.get? b=none/\¬Av ρ b/\∀ o,g.get? b=some o->∃ es n,o.data=.dict es n):Off ρ h g g':=by
 have k:∀ b o,b ∉ S->g.get? b=some o->g'.get? b=some o:=fun b o n e=>(x.2.1 b n).trans e
 have up:∀ b o,g.get? b=some o->∃ o',g'.get? b=some o'/\D5 o o':=fun b o e=>by
  by_cases m:b∈S
  · obtain ⟨sl,e'⟩:=x.2.2 b o e
    exact ⟨_,e',.inr ⟨(fr b m).2.2 o e,rfl⟩⟩
  · exact ⟨o,k b o m e,.refl o⟩
 refine ⟨fun b o _ e _=>up b o e,fun b o e w=>k b o (fun m=>(fr b m).2.1 w) e,fun b o o0 e e0=>k b o (fun m=>by rw [(fr b m).1] at e0;cases e0) e,fun b o e f=>k b o (fun m=>?_) e,fun b o C e f=>⟨o,k b o (fun m=>?_) e,f⟩,fun b o v e d=>k b o (fun m=>?_) e,fun b o es n e _=>up b o e,fun b o e=>?_⟩
 · refine ex2 ((fr b m).2.2 o e) fun es n d=>?_
   exact f.notDict es n d
 · refine ex2 ((fr b m).2.2 o e) fun es n d=>?_
   exact f.notDict es n d
 · refine ex2 ((fr b m).2.2 o e) fun es n d'=>?_
   rw [d] at d';cases d'
 · refine ex1 (up b o e) fun o' zz=>Ac zz fun e' _=>?_
   exact ⟨o',e'⟩
structure Flown(ρ:Rho)(h h':Heap)(c:Nat)(e:Value):Prop where
 is:∃ (a C:Addr) (vs:Array Value) (tb:Addr) (tvs:Array Value),e=.ref a/\cx.cls[c]?=some (.ref C)/\h.get? a=none/\h'.get? a=some { cls:=.ref C,dict:=none,data:=.fields vs,slots:=#[] }/\vs.size=6/\¬Av ρ a /\
  vs[1]?=some (.ref tb)/\h.get? tb=none/\h'.get? tb=some { cls:=.type "traceback",dict:=none,data:=.fields tvs,slots:=#[] }/\tvs.size=11/\¬Av ρ tb
theorem Flown.to{c:Nat}{e:Value}(x:Flown ρ h g c e):Flying ρ h g c e:=by
 refine ex5 x.is fun a C vs tb tvs zz=>Ov zz fun h1 h2 h3 h4 h5 h6 h7=>?_
 exact ⟨a,C,vs,h1,h2,h3,h4,h5,h6,.inr ⟨tb,tvs,h7⟩⟩
theorem Flown.vr{c:Nat}{e:Value}(x:Flown ρ h g c e):VR ρ g (.exc c) e:=by
 refine ex5 x.is fun a C vs tb tvs zz=>Ov zz fun hr0 h2 h3 h4 h5 h6 _=>?_;refine Eq.symm hr0▸?_
 exact .exc h4 h6 h2 ⟨rfl,⟨_,rfl⟩,rfl⟩
theorem Me{C:Addr}{vs:Array Value}:¬Fo { cls:=.ref C,dict:=none,data:=.fields vs,slots:=#[] }:=by
 rintro (⟨q,_⟩ | ⟨q,_⟩) <;> cases q
theorem I4{vs:Array Value}:¬Fo { cls:=.type "traceback",dict:=none,data:=.fields vs,slots:=#[] }:=by
 rintro (⟨q,_⟩ | ⟨q,_⟩)
 · exact absurd (show Value.type "traceback"=Value.type "tuple" from q) (by decide)
 · exact absurd (show Value.type "traceback"=Value.type "range" from q) (by decide)
theorem Sa(w:Aw l ρ g):g.FunFrames cx.h₀ l:=by
 induction l with
 | nil=>trivial
 | cons env l ih =>
  refine Ae fun G kG=>?_
  refine Ac (w env (.head _)) fun k zz=>ex2 zz fun L o zz=>Ep zz fun h1 h2 h3 zn6 _=>?_;obtain ⟨es,n,h5⟩:=zn6
  refine kG ?_
  exact ⟨k,⟨L,o,h1,h2,h3,fun vs q=>by rw [h5] at q;cases q⟩,ih fun e he=>w e (.tail _ he)⟩
theorem La(w:Aw l ρ g):∀ b∈l.filterMap (·.frame),cx.h₀.get? b=none/\¬Av ρ b/\∀ o,g.get? b=some o->∃ es n,o.data=.dict es n:=fun b hb=>by
 refine Ae fun G kG=>?_
 refine ex1 (List.mem_filterMap.mp hb) fun env zz=>Ac zz fun he hf=>?_
 refine Ac (w env he) fun k zz=>ex2 zz fun L o zz=>Ep zz fun h1 h2 h3 h5 h6=>?_
 refine kG ?_
 rw [h1] at hf;cases hf
 exact ⟨h2,h6,fun o' e'=>by rw [h3] at e';cases e';exact h5⟩
end
section
variable{ρ:Rho}{h:Heap}{A:Around}{env:Env}{outer:List Env}{L:Addr}{s:Shared}{Q:Unit->Shared->Prop}{E:Value->Shared->Prop}{c:Nat}{e:Value}{H:Hp}
theorem Qs{a C:Addr}{vs:Array Value}{head:Value}{hn:Bool}(hfr:A.frames=some (env :: outer))(hf:env.frame=some L)(w:Aw (env :: outer) ρ s.heap)(R:Rel H ρ s)(lb:E3 cx.h₀ h)(lh:E3 h s.heap)(hC:cx.cls[c]?=some (.ref C))(ha:h.get? a=none)(ga:s.heap.get? a=some { cls:=.ref C,dict:=none,data:=.fields vs,slots:=#[] })(hz:vs.size=6)(no:¬Av ρ a)
 (k:∀ h',Off ρ h s.heap h'->Flown ρ h h' c (.ref a)->Q () { s with heap:=h' }) :
 wpAny (model cx.prog cx.w) A (do let x<-frameOf env;let pl<-entryPlaceOf L hn;let b<-EntryCells.newEntry head x .none (rawInt L) .none pl;setField (.ref a) 1 b) Q E s:=by
 refine zB (wpAny_frameOf_fun hfr (Sa w) hf fun h₁ hs=>?_)
 have o1:Off ρ h s.heap h₁:=Off.slots hs (La w)
 refine zB (wpAny_entryPlaceOf fun pl hpl=>?_)
 unfold EntryCells.newEntry newFields
 refine zB (wpAny_newObj_type ?_ (hpl.sizeOk5 _ _ _ _ _))
 have na:a ∉ (env :: outer).filterMap (·.frame):=fun m=>by
  refine ex2 ((La w a m).2.2 _ ga) fun es n d=>?_
  cases d
 have ga1:h₁.get? a=some { cls:=.ref C,dict:=none,data:=.fields vs,slots:=#[] }:=(hs.2.1 a na).trans ga
 generalize ht:({ cls:=.type "traceback",dict:=none,data:=.fields ([head,.ref L,.none,rawInt L,.none]++(if pl.isEmpty then List.replicate 6 Value.none else pl)).toArray }:Obj)=t
 have sz:([head,.ref L,.none,rawInt L,.none]++(if pl.isEmpty then List.replicate 6 Value.none else pl)).toArray.size=11:=by
  rcases hpl with rfl | ⟨_,_,_,_,_,_,_,rfl⟩ <;> rfl
 have ga2:(h₁.push t).get? a=some { cls:=.ref C,dict:=none,data:=.fields vs,slots:=#[] }:=Heap.get?_push_of_some t ga1
 refine wpAny_setField ga2 rfl (by exact o23 hz) ?_
 have ne:h₁.objs.size≠a:=Nat.ne_of_gt (Heap.lt_size ga1)
 have gt:(h₁.push t).get? h₁.objs.size=some t:=Heap.get?_push_size h₁ (by rw [<- ht];rfl)
 have R1:Rel H ρ { s with heap:=h₁ }:=o1.rel R
 have hb:cx.h₀.get? a=none:=lb.none ha
 have o2:Off ρ h s.heap ((h₁.push t).update a (Obj.mapFields (·.setIfInBounds 1 (Value.ref h₁.objs.size)))):=(o1.trans (Off.push t)).trans (Off.upd ga2 rfl ha hb no Me)
 refine k _ o2 ⟨a,C,vs.setIfInBounds 1 (.ref h₁.objs.size),h₁.objs.size,_,rfl,hC,ha,Heap.get?_update_self _ ga2 rfl,by rw [Array.size_setIfInBounds];exact hz,no,?_,?_,((Heap.get?_update_other _ _ (Ne.symm ne)).trans gt).trans (congrArg some ht.symm),sz,R1.fresh_not (Am h₁)⟩
 · rw [Array.getElem?_setIfInBounds_self_of_lt (by exact o23 hz)]
 · refine lh.none ?_
   rw [hs.1];exact Am s.heap
theorem O9(hfr:A.frames=some (env :: outer))(hf:env.frame=some L)(w:Aw (env :: outer) ρ s.heap)(R:Rel H ρ s)(lb:E3 cx.h₀ h)(lh:E3 h s.heap)(fl:Flying ρ h s.heap c e)
 (k:∀ h',Off ρ h s.heap h'->Flown ρ h h' c e->Q () { s with heap:=h' }):wpAny (model cx.prog cx.w) A (noteFrame e env) Q E s:=by
 refine Ae fun G kG=>?_
 refine ex3 fl.is fun a C vs zz=>Ov zz fun zr3 hC ha ga hz no h7=>?_;subst zr3
 refine kG ?_
 unfold noteFrame
 simp only [hf]
 rcases h7 with h1 | ⟨tb,tvs,h1,htb,gtb,hzt,not⟩
 · refine zB (wpAny_field ga rfl h1 ?_)
   exact Qs hfr hf w R lb lh hC ha ga hz no k
 · refine zB (wpAny_field ga rfl h1 ?_)
   obtain ⟨x3,h3⟩:∃ x,tvs[3]?=some x:=⟨_,Array.getElem?_eq_getElem (by exact o24 hzt)⟩
   refine zB (wpAny_field gtb rfl h3 ?_)
   by_cases q:(x3 == rawInt L)=true
   · rw [if_pos q]
     exact zH (k _ Off.refl ⟨a,C,vs,tb,tvs,rfl,hC,ha,ga,hz,no,h1,htb,gtb,hzt,not⟩)
   · rw [if_neg q]
     refine zB (wpAny_setField gtb rfl (by exact o24 hzt) ?_)
     have o1:Off ρ h s.heap (s.heap.update tb (Obj.mapFields (·.setIfInBounds 3 Value.none))):=Off.upd gtb rfl htb (lb.none htb) not I4
     have ne:tb≠a:=fun q=>by rw [q,ga] at gtb;exact nomatch gtb
     exact Qs (s:={ s with heap:=s.heap.update tb (Obj.mapFields (·.setIfInBounds 3 Value.none)) }) hfr hf (o1.frames w) (o1.rel R) lb (lh.trans o1.live) hC ha ((Heap.get?_update_other _ _ ne).trans ga) hz no fun h' o' fl'=>k h' (o1.trans o') fl'
theorem Eu{fr:Option Addr}(lb:E3 cx.h₀ h)(fl:Flown ρ h s.heap c e)(k:∀ h',Off ρ h s.heap h'->Flown ρ h h' c e->Q () { s with heap:=h' }):wpAny (model cx.prog cx.w) A (setFlight e fr) Q E s:=by
 refine Ae fun G kG=>?_
 refine ex5 fl.is fun a C vs tb tvs zz=>Xi zz fun zr5 hC ha ga hz no h1 htb gtb hzt not=>?_;subst zr5
 refine kG ?_
 unfold setFlight
 refine zB (wpAny_field ga rfl h1 ?_)
 refine wpAny_setField gtb rfl (by exact o24 hzt) ?_
 have ne:tb≠a:=fun q=>by rw [q,ga] at gtb;exact nomatch gtb
 exact k _ (Off.upd gtb rfl htb (lb.none htb) not I4) ⟨a,C,vs,tb,_,rfl,hC,ha,(Heap.get?_update_other _ _ ne).trans ga,hz,no,h1,htb,Heap.get?_update_self _ gtb rfl,by rw [Array.size_setIfInBounds];exact hzt,not⟩
theorem Sb(hfr:A.frames=some (env :: outer))(hf:env.frame=some L)(w:Aw (env :: outer) ρ s.heap)(R:Rel H ρ s)(lb:E3 cx.h₀ h)(lh:E3 h s.heap)(fl:Flying ρ h s.heap c e)
 (k:∀ h',Off ρ h s.heap h'->Flown ρ h h' c e->Q () { s with heap:=h' }):wpAny (model cx.prog cx.w) A (leaving env e) Q E s:=by
 unfold leaving
 exact zB (O9 hfr hf w R lb lh fl fun h1 o1 fl1=>Eu (s:={ s with heap:=h1 }) lb fl1 fun h2 o2 fl2=>k h2 (o1.trans o2) fl2)
theorem Aco(lb:E3 cx.h₀ h)(fl:Flown ρ h s.heap c e)(k:∀ h',Off ρ h s.heap h'->Flown ρ h h' c e->E e { s with heap:=h' }):cameBackBy (model cx.prog cx.w) A env E e s:=by
 refine Ae fun G kG=>?_
 refine ex5 fl.is fun a C vs tb tvs zz=>Xi zz fun zr5 hC ha ga hz no h1 htb gtb hzt not=>?_;subst zr5
 refine kG ?_
 unfold cameBackBy
 refine zB (wpAny_field ga rfl h1 ?_)
 exact Eu lb ⟨a,C,vs,tb,tvs,rfl,hC,ha,ga,hz,no,h1,htb,gtb,hzt,not⟩ fun h' o' fl'=>k h' o' fl'
end
noncomputable def Hl(Φ:Funs)(d:Nat):Prop :=
 ∀ (k:Nat) (a:Addr) (args:List Val) (vals:List Value) (A:Around) (l:List Env),cx.fns[k]?=some a->RoomF A d->A.frames=some l ->
  Sim A ((Amb.vrs args vals).and (Amb.frames l)) (call (.ref a) vals) (Φ k args) (Amb.vr)
section
variable{A:Around}{env:Env}{sc:Scope}{ns:List (Option Str)}{Γ:Env'}{Φ:Funs}{d:Nat}{l:List Env}
theorem Base.func(B:Base){k:Nat}{a:Addr}(hk:cx.fns[k]?=some a)(hd:∃ f,cx.T.funs[k]?=some f):∃ o fd,cx.h₀.get? a=some o/\o.data=.func fd:=by
 refine Ae fun G kG=>?_
 obtain ⟨f,hf⟩:=hd
 refine ex4 ((B.fns k a f hk hf).is) fun o fd body ns zz=>Cl zz fun e _ d _=>?_
 refine kG ?_
 exact ⟨o,fd,e,d⟩
theorem Nx(B:Base){f:Nat}(hΦ:∀ a args vals,cx.fns[f]?=some a->Sim A ((Amb.vrs args vals).and (Amb.frames l)) (call (.ref a) vals) (Φ f args) (Amb.vr)){x:Str}{xs:List Expr}{es:MEs}{np pos:Pos}(hg:Br sc x=true)(hk:Dy N.funs x f=true)(hex:∃ g,cx.T.funs[f]?=some g)(hes:ckEs N sc ns es xs=true)
 (y:Sim A ((Amb.env env sc ns Γ).and (Amb.frames l)) (spliced (xs.map fun e=>(false,eval e env))) (evalEs cx.T Φ es Γ) (Amb.vrs)) :
 Sim A ((Amb.env env sc ns Γ).and (Amb.frames l)) (eval (.Call (.Name x np) xs [] pos) env) (Aj cx.T Φ (.call f es) Γ) (Amb.vr):=by
 refine Ae fun G kG=>?_
 refine ex2 B.ns fun mg mb zz=>Cl zz fun ng nb q _=>?_
 refine ex1 (q x f (Cq hk)) fun a zz=>Ac zz fun ha hx=>?_
 refine ex2 (B.func ha hex) fun o fd zz=>Ac zz fun ho hd=>?_
 refine kG ?_
 intro H ρ s R p
 refine Gn.mono (Ft (f:=.ref a) (K:=fun vs Q E s=>(s.heap.get? a=some o/\o.data=.func fd)/\wpAny (model cx.prog cx.w) A (call (.ref a) vs) Q E s) (fun e=>Gf (e▸hes)) R (y H ρ s R p) ?_ ?_) ?_
 · intro ms vs H1 ρ1 s1 _ F1 R1 vrs
   exact Gn.andK ⟨R1.base _ _ ho,hd⟩ (hΦ a ms vs ha H1 ρ1 s1 R1 ⟨vrs,(Amb.frames l).st _ _ _ _ p.2 F1⟩)
 · exact fun vs Q E Q' E' s h k1 k2=>⟨h.1,zE h.2 k1 k2⟩
 · intro Q E h
   refine wpAny_Call_ofName (wp_glob R p.1.st hg ng nb (.inl hx) ?_)
   rw [An pos (B8 hes)]
   exact Calls.callWith_function (o:=o) (fd:=fd) (zE h (fun b s₁ h₁=>by rw [h₁.1];exact h₁.2) fun _ _ q=>q)
theorem Ek{α:Type}:∀ {ns:List Str} {vs:List α} {i:Nat} {y:Str} {v:α},ns.Nodup->ns[i]?=some y->vs[i]?=some v->(ns.zip vs).lookup y=some v
 | [],_,_,_,_,_,h,_=>by simp at h
 | _ :: _,[],_,_,_,_,_,h=>by simp at h
 | n :: ns,u :: vs,0,y,v,_,h1,h2=>by simp at h1 h2;subst h1 h2;simp [List.zip_cons_cons]
 | n :: ns,u :: vs,i+1,y,v,nd,h1,h2=>by
  simp at h1 h2
  have ne:(y == n)=false:=by
   have:y∈ns:=zF h1
   simpa using fun e:y=n=>(List.nodup_cons.mp nd).1 (e▸this)
  rw [List.zip_cons_cons,List.lookup_cons,ne]
  exact Ek (List.nodup_cons.mp nd).2 h1 h2
theorem Mf:∀ {ns:List Str} {vs:List Value},ns.Nodup->vs.length=ns.length->(ns.filterMap fun n=>((ns.zip vs).lookup n).map (n,·))=ns.zip vs:=by
 have gen:∀ (ns:List Str) (vs:List Value) (look:Str->Option Value),vs.length=ns.length->(∀ (i:Nat) (y:Str) (v:Value),ns[i]?=some y->vs[i]?=some v->look y=some v)->(ns.filterMap fun n=>(look n).map (n,·))=ns.zip vs:=by
  intro ns
  induction ns with
  | nil=>intro vs look _ _;rfl
  | cons n ns ih =>
   intro vs look hl k
   cases vs with
   | nil=>simp at hl
   | cons v vs =>
    have e:=k 0 n v (by simp) (by simp)
    rw [List.filterMap_cons,e]
    simp only [Option.map_some,List.zip_cons_cons]
    rw [ih vs look (by simpa using hl) fun i y u h1 h2=>k (i+1) y u (by simpa using h1) (by simpa using h2)]
 intro ns vs nd hl
 exact gen ns vs _ hl fun i y v h1 h2=>Ek nd h1 h2
theorem Uo{α:Type}{c:Prop}[Decidable c]{x y r:α}(h:¬c)(k:y=r):(if c then x else y)=r:=(if_neg h).trans k
theorem Kr{fd:FuncData}{vals:List Value}{names:List Str}(h1:fd.params.posonlyargs=[])(h2:fd.params.args.map (·.arg)=names)(h3:fd.params.vararg=none)(h4:fd.params.kwonlyargs=[])(h5:fd.params.kwarg=none)(h6:fd.defaults=.none)
 (nd:names.Nodup) (hl:vals.length=names.length):bindArgs fd ⟨vals,[]⟩=pure (names.zip vals):=by
 have hmiss:∀ k:Nat,((names.take k).filter fun n=>((names.zip vals).lookup n).isNone)=[]:=by
  intro k
  rw [List.filter_eq_nil_iff]
  intro n hn
  obtain ⟨i,hi⟩:=List.mem_iff_getElem?.mp (List.mem_of_mem_take hn)
  have lt:i < vals.length:=by rw [hl];exact (List.getElem?_eq_some_iff.mp hi).1
  rw [Ek nd hi (List.getElem?_eq_getElem lt)]
  simp
 have hf:=Mf nd hl
 obtain ⟨_,_,⟨po,ar,va,kw,kd,ka,de⟩,_,_,_,_,df,_⟩:=fd
 cases h1;cases h3;cases h4;cases h5;cases h6
 subst h2
 refine Uo (fun w=>?_) ?_
 · rw [Bool.and_eq_true] at w
   exact absurd (of_decide_eq_true w.1) (by rw [hl];exact Nat.lt_irrefl _)
 refine Uo (fun w=>?_) ?_
 · have e:=hmiss ((List.map (·.arg) ar).length - (List.drop (0 - (List.map (·.arg) ar).length) ([]:List Value)).length)
   exact Bool.false_ne_true ((congrArg (fun l=>!List.isEmpty l) e).symm.trans w)
 have z:∀ (X:List Str) (n:Nat),X.zip (List.drop n ([]:List Value))=[]:=fun X n=>by rw [List.drop_nil,List.zip_nil_right]
 refine Eq.trans (congrArg (fun (l:List (Str × Value))=>Bind.bind (forIn l _ _) _) (z (List.drop _ (List.map (·.arg) ar)) _)) ?_
 refine Eq.trans ?_ (congrArg pure hf)
 exact congrArg (fun l=>(pure (List.filterMap (fun n=>Option.map (fun x=>(n,x)) (List.lookup n (List.zip (List.map (fun x=>x.arg) ar) vals))) l):Sem (List (Str × Value)))) (List.append_nil _)
set_option tactic.hygienic true in
theorem Ev:∀ {names:List (Str × NameKind)} {n:Nat} {acc:List (Str × Addr)} {y:Str},((y,NameKind.cell)∈names\/(acc.lookup y).isSome=true)->((cellsFrom n names acc).lookup y).isSome=true
 | [],_,_,_,h=>by
  rcases h with h | h
  · cases h
  · exact h
 | (z,k) :: r,n,acc,y,h=>by
  unfold cellsFrom
  split
  · rename_i hk
    refine Ev ?_
    rcases h with h | h
    · rcases List.mem_cons.mp h with e | h
      · cases e;right;simp
      · exact .inl h
    · right
      rw [List.lookup_cons]
      split
      · rfl
      · exact h
  · rename_i hk
    refine Ev ?_
    rcases h with h | h
    · rcases List.mem_cons.mp h with e | h
      · cases e;simp at hk
      · exact .inl h
    · exact .inr h
theorem Up{kd:Str->Option NameKind}:∀ {binds:List (Str × Value)} {m:Str->Option Value} {y:Str} {v:Value},(binds.map (·.1)).Nodup->(y,v)∈binds->kd y=some .local->bindL kd binds m y=some v:=by
 have keep:∀ (binds:List (Str × Value)) (m:Str->Option Value) (y:Str),y ∉ binds.map (·.1)->bindL kd binds m y=m y:=by
  intro binds
  induction binds with
  | nil=>intro m y _;rfl
  | cons b r ih =>
   intro m y hy
   obtain ⟨n,v⟩:=b
   simp only [List.map_cons,List.mem_cons,not_or] at hy
   unfold bindL
   rw [ih _ _ hy.2]
   split
   · simp [hy.1]
   · rfl
 intro binds
 induction binds with
 | nil=>intro m y v _ h _;cases h
 | cons b r ih =>
  intro m y v nd h hk
  obtain ⟨n,u⟩:=b
  rw [List.map_cons,List.nodup_cons] at nd
  unfold bindL
  rcases List.mem_cons.mp h with e | h
  · cases e
    rw [keep _ _ _ nd.1,if_pos hk]
    simp
  · exact ih nd.2 h hk
theorem Uq{kd:Str->Option NameKind}:∀ {binds:List (Str × Value)} {m:Str->Option Value} {y:Str} {v:Value},(binds.map (·.1)).Nodup->(y,v)∈binds->kd y≠some .local->bindC kd binds m y=some v:=by
 have keep:∀ (binds:List (Str × Value)) (m:Str->Option Value) (y:Str),y ∉ binds.map (·.1)->bindC kd binds m y=m y:=by
  intro binds
  induction binds with
  | nil=>intro m y _;rfl
  | cons b r ih =>
   intro m y hy
   obtain ⟨n,v⟩:=b
   simp only [List.map_cons,List.mem_cons,not_or] at hy
   unfold bindC
   rw [ih _ _ hy.2]
   split
   · rfl
   · simp [hy.1]
 intro binds
 induction binds with
 | nil=>intro m y v _ h _;cases h
 | cons b r ih =>
  intro m y v nd h hk
  obtain ⟨n,u⟩:=b
  rw [List.map_cons,List.nodup_cons] at nd
  unfold bindC
  rcases List.mem_cons.mp h with e | h
  · cases e
    rw [keep _ _ _ nd.1,if_neg hk]
    simp
  · exact ih nd.2 h hk
noncomputable def Aap(Φ:Funs)(d:Nat):Prop :=
 ∀ (body:MSs) (stmts:List Stmt) (env:Env) (sc:Scope) (ns:List (Option Str)) (A:Around) (l:List Env),ckSs N sc ns body stmts=true->(∀ (i j:Nat) (y:Str),ns[i]?=some (some y)->ns[j]?=some (some y)->i=j)->Room A d->A.frames=some (env :: l) ->
  env.frame=some env.locals->Gx A (env :: l) env sc ns (execs stmts env) (execSs cx.T Φ body)
theorem Gg:∀ {ns:List (Option Str)},I3 ns=true->∀ (i j:Nat) (y:Str),ns[i]?=some (some y)->ns[j]?=some (some y)->i=j
 | [],_,i,_,_,h,_=>by simp at h
 | none :: r,nd,i,j,y,h1,h2=>by
  cases i with
  | zero=>simp at h1
  | succ i=>cases j with
   | zero=>simp at h2
   | succ j=>simp at h1 h2;rw [Gg (by simpa [I3] using nd) i j y h1 h2]
 | some x :: r,nd,i,j,y,h1,h2=>by
  simp only [I3,Bool.and_eq_true,Bool.not_eq_true',List.contains_eq_mem,decide_eq_false_iff_not] at nd
  cases i with
  | zero =>
   cases j with
   | zero=>rfl
   | succ j =>
    simp at h1 h2
    subst h1
    exact absurd (zF h2) nd.1
  | succ i =>
   cases j with
   | zero =>
    simp at h1 h2
    subst h2
    exact absurd (zF h1) nd.1
   | succ j =>
    simp at h1 h2
    rw [Gg nd.2 i j y h1 h2]
theorem Ny{ns:List Str}(h:∀ (i j:Nat) (y:Str),(ns.map some)[i]?=some (some y)->(ns.map some)[j]?=some (some y)->i=j):ns.Nodup:=by
 refine List.pairwise_iff_getElem.mpr fun i j hi hj lt e=>?_
 have:=h i j ns[i] (by rw [List.getElem?_map,List.getElem?_eq_getElem hi];rfl) (by rw [List.getElem?_map,List.getElem?_eq_getElem hj,e];rfl)
 exact o25 lt this
theorem Ur{f:MFun}{names:List Str}{params:Arguments}{body:List Stmt}{sc:Scope}(h:ckF N f names params body sc=true) :
 f.arity+f.nvars=names.length/\names.take f.arity=params.args.map (·.arg)/\params.posonlyargs=[]/\params.vararg=none/\params.kwonlyargs=[]/\params.kwarg=none/\I3 (names.map some)=true /\
  sc.isCoroutine=false/\sc.isGenerator=false/\sc.kind=.function/\ckSs N sc (names.map some) f.body body=true /\
  (∀ p∈sc.names,p.2=.cell->sc.names.lookup p.1=some .cell)/\(∀ p∈sc.names,p.2≠.free)/\(∀ y∈names.take f.arity,sc.names.lookup y=some .local\/sc.names.lookup y=some .cell):=by
 have h2:=an2 h
 have h3:=an2 h2
 have h4:=an2 h3
 have h5:=an2 h4
 have h6:=an2 h5
 have h7:=an2 h6
 have h8:=an2 h7
 have h9:=an2 h8
 have h10:=an2 h9
 have h11:=an2 h10
 have h12:=an2 h11
 exact ⟨of_decide_eq_true (an1 h),of_decide_eq_true (an1 h2),List.isEmpty_iff.mp (an1 h3),Option.isNone_iff_eq_none.mp (an1 h4),List.isEmpty_iff.mp (an1 h5),Option.isNone_iff_eq_none.mp (an1 h6),an1 h7,not_not (an1 h8),not_not (an1 h9),of_decide_eq_true (an1 h10),an1 h11,
  fun p hp hc=>(of_decide_eq_true (an1 (List.all_eq_true.mp (an1 h12) p hp))).trans (congrArg some hc),fun p hp=>of_decide_eq_false (not_not (an2 (List.all_eq_true.mp (an1 h12) p hp))),fun y hy=>Tt (List.all_eq_true.mp (an2 h12) y hy)⟩
theorem Room.deeper{d:Nat}(r:RoomF A (d+1))(env:Env):Room (A.deeper env) d:=⟨r.hh,by have:=r.depth;show A.depth+1+_+_ < _;exact o26 this,by have:=r.units;show A.units+3+_+_ < _;exact o27 this⟩
theorem Nz(B:Base){k:Nat}{a:Addr}{args:List Val}{vals:List Value}(hk:cx.fns[k]?=some a)(room:RoomQ A (d+1))(hfr:A.frames=some l)
 (hb:∀ (f:MFun) (stmts:List Stmt) (env:Env) (sc:Scope) (ns:List (Option Str)),cx.T.funs[k]?=some f->ckSs N sc ns f.body stmts=true->(∀ (i j:Nat) (y:Str),ns[i]?=some (some y)->ns[j]?=some (some y)->i=j)->(A.deeper env).frames=some (env :: l)->env.frame=some env.locals ->
  Gx (A.deeper env) (env :: l) env sc ns (execs stmts env) (execSs cx.T (Af cx.T d) f.body)) :
 Sim A ((Amb.vrs args vals).and (Amb.frames l)) (call (.ref a) vals) (Af cx.T (d+1) k args) (Amb.vr):=by
 intro H ρ s R ⟨vrs,fok⟩
 rw [Rx]
 cases hf:cx.T.funs[k]? with
 | none=>trivial
 | some f =>
  show A8 A (if args.length=f.arity then Abr (execSs cx.T (Af cx.T d) f.body (args.map some++List.replicate f.nvars none) H) else .bad) _ _ ρ s
  by_cases hl:args.length=f.arity
  · rw [if_pos hl]
    refine Ae fun G kG=>?_
    refine ex4 ((B.fns k a f hk hf).is) fun o fd body names zz=>Xi zz fun ho hoc hdata hcd hbody hclo hglob hblt hdf hkd hck=>?_
    refine Ag4 (Ur hck) fun c1 c2 c3 c4 c5 c6 c7 c8 c9 c10 c11 c12 c13 c14=>?_
    refine kG ?_
    have nd:=Gg c7
    have nds:names.Nodup:=Ny nd
    have ndt:(names.take f.arity).Nodup:=nds.sublist (List.take_sublist _ _)
    have vlen:vals.length=(names.take f.arity).length:=by rw [List.length_take,<- vrs.length,hl];exact o28 c1
    have hbind:bindArgs fd ⟨vals,[]⟩=pure ((names.take f.arity).zip vals):=Kr c3 c2.symm c4 c5 c6 hdf ndt vlen
    have hkind:∀ x∈(names.take f.arity).zip vals,fd.scope.names.lookup x.1=some .local\/(fd.scope.names.lookup x.1=some .cell/\((cellsFrom (s.heap.objs.size+1) fd.scope.names []).lookup x.1).isSome=true):=by
     intro x hx
     rcases c14 x.1 (List.of_mem_zip hx).1 with h | h
     · exact .inl h
     · exact .inr ⟨h,Ev (.inl (mem_of_lookup h))⟩
    generalize henv:callEnvC fd s.heap.objs.size a=env
    have eloc:env.locals=s.heap.objs.size:=by rw [<- henv];rfl
    have escope:env.scope=fd.scope:=by rw [<- henv];rfl
    have ecells:env.cells=cellsFrom (s.heap.objs.size+1) fd.scope.names []:=by rw [<- henv];rfl
    have egl:env.globals=mainGlobals:=by rw [<- henv];exact hglob
    have ebl:env.builtins=builtinsNs:=by rw [<- henv];exact hblt
    have efr:env.frame=some env.locals:=by rw [<- henv];rfl
    have ekind:∀ y,env.kindOf y=fd.scope.names.lookup y:=fun y=>by unfold Env.kindOf;rw [escope]
    -- the body
    have main:∀ s₁,InCallC s env.locals (bindL env.kindOf ((names.take f.arity).zip vals) fun _=>none) env.cells (bindC env.kindOf ((names.take f.arity).zip vals) fun _=>none) s₁ ->
     Full ρ s.heap ρ s₁.heap/\Bs (A.deeper env) env fd.scope (names.map some) (execSs cx.T (Af cx.T d) f.body (args.map some++List.replicate f.nvars none) H) (execs body env) ρ s₁:=by
     intro s₁ x
     have hkeep:=x.toInCall.keep
     have F0:Full ρ s.heap ρ s₁.heap:=Full.more hkeep
     refine ex2 x.toInCall.same fun h₁ tk e1=>?_
     have R1:Rel H ρ s₁:=by rw [e1] at hkeep ⊢;exact R.more hkeep
     have locfresh:s.heap.get? env.locals=none:=by rw [eloc];exact Am _
     have lvB:E3 cx.h₀ s.heap:=fun b o e=>⟨o,R.base b o e⟩
     have cfresh:∀ y c,env.cells.lookup y=some c->s.heap.get? c=none:=fun y c hc=>Ge (by have:=x.above y c (mem_of_lookup hc);rw [eloc] at this;exact zL this)
     have cellFacts:∀ y c,env.cells.lookup y=some c->s₁.heap.IsCell c (bindC env.kindOf ((names.take f.arity).zip vals) (fun _=>none) y):=fun y c hc=>x.cell y c hc
     have eok:EnvOk env fd.scope (names.map some) (args.map some++List.replicate f.nvars none) ρ s₁.heap:=by
      refine ⟨⟨by rw [escope];exact c10,egl,ebl,fun y kd hy=>?_,⟨_,x.toInCall.ns⟩,R.fresh_not locfresh,lvB.none locfresh,fun y c hc=>⟨⟨_,cellFacts y c hc⟩,R.fresh_not (cfresh y c hc),lvB.none (cfresh y c hc)⟩,fun y hy=>?_,fun y z c hy hz=>name_of_addr x.apart (mem_of_lookup hy) (mem_of_lookup hz)⟩,by rw [List.length_append,List.length_map,List.length_replicate,List.length_map,hl];exact c1,?_⟩
      · rw [ekind,hy]
        cases kd <;> first | rfl | exact .inl rfl | trivial
      · rcases hy with hy | hy
        · rw [ecells]
          exact Option.isSome_iff_exists.mp (Ev (.inl (mem_of_lookup hy)))
        · exact absurd rfl (c13 _ (mem_of_lookup hy))
      · intro i y mv hi hm
        have hi':names[i]?=some y:=by rw [List.getElem?_map] at hi;cases q:names[i]? <;> rw [q] at hi <;> simp at hi;rw [hi]
        by_cases lt:i < f.arity
        · have ha:args[i]?=some mv:=by
           rw [List.getElem?_append_left (by rw [List.length_map,hl];exact lt),List.getElem?_map] at hm
           cases q:args[i]? <;> rw [q] at hm <;> simp at hm
           rw [hm]
          refine ex1 (vrs.get ha) fun v zz=>Ac zz fun ev vr=>?_
          have et:(names.take f.arity)[i]?=some y:=by rw [List.getElem?_take,if_pos lt];exact hi'
          have mem:(y,v)∈(names.take f.arity).zip vals:=by
           refine List.mem_iff_getElem?.mpr ⟨i,?_⟩
           rw [List.getElem?_zip_eq_some];exact ⟨et,ev⟩
          have ndz:(((names.take f.arity).zip vals).map (·.1)).Nodup:=by
           rw [List.map_fst_zip (by rw [vlen];exact zI _)];exact ndt
          refine ⟨v,?_,vr.step F0.step⟩
          rcases c14 y (zF et) with h | h
          · exact .inl ⟨by rw [ekind];exact h,_,x.toInCall.ns,Up ndz mem (by rw [ekind];exact h)⟩
          · obtain ⟨c,hc⟩:=Option.isSome_iff_exists.mp (Ev (n:=s.heap.objs.size+1) (acc:=[]) (.inl (mem_of_lookup h)))
            rw [<- ecells] at hc
            have:=cellFacts y c hc
            rw [Uq ndz mem (by rw [ekind,h];simp)] at this
            exact .inr ⟨.inl (by rw [ekind];exact h),c,hc,this⟩
        · exfalso
          rw [List.getElem?_append_right (by rw [List.length_map,hl];exact o29 c1 lt),List.getElem?_replicate] at hm
          split at hm <;> simp at hm
     refine ⟨F0,hb f body env fd.scope (names.map some) hf c11 nd (by show A.frames.map (env :: ·)=_;rw [hfr];rfl) efr _ H ρ s₁ R1 eok ?_⟩
     · intro e he
       rcases List.mem_cons.mp he with rfl | he
       · refine Ae fun G kG=>?_
         refine ex3 x.toInCall.ns fun o' es ep zz=>Ap zz fun eo' d' _=>?_
         refine kG ?_
         exact ⟨by rw [escope,c10];simp,e.locals,o',efr,lvB.none locfresh,eo',⟨_,_,d'⟩,R.fresh_not locfresh⟩
       · exact (fok.full F0) e he
    -- what stands of the caller's heap
    have back:∀ {s₁ ρ' h'},Full ρ s.heap ρ s₁->FullS env ρ s₁ ρ' h'->(∀ y c,env.cells.lookup y=some c->s.heap.get? c=none)->Full ρ s.heap ρ' h':=by
     intro s₁ ρ' h' F0 F1 cf
     refine ⟨?_,fun b ob e n=>?_,F0.live.trans F1.live⟩
     · exact F0.grow.trans F1.grow F0.live
     · refine Ae fun G kG=>?_
       refine ex1 (F0.keep b ob e n) fun o1 zz=>Ac zz fun e1 u1=>?_
       refine ex1 (F1.keep b o1 e1 n (fun q=>by rw [q,eloc,Am] at e;exact nomatch e) (fun y q=>by rw [cf y b q] at e;cases e)) fun o2 zz=>Ac zz fun e2 u2=>?_
       refine kG ?_
       exact ⟨o2,e2,u1.trans u2⟩
    have cf:∀ y c,env.cells.lookup y=some c->s.heap.get? c=none:=fun y c hc=>by
     refine Ge ?_
     have ok:=cellsFrom_ok fd.scope.names (s.heap.push { cls:=.type "frame",data:=.dict #[] }) (s.heap.objs.size+1) [] ⟨fun _ _ hm=>(nomatch hm),List.Pairwise.nil⟩ (by rw [Heap.size_push];exact zI _)
     rw [Heap.size_push] at ok
     rw [ecells] at hc
     exact Nat.le_of_succ_le (ok.empty y c (mem_of_lookup hc)).2
    have hlim:s.heap.NoLimit:=B.lim.keeps R.base
    have hcd':s.heap.CodeRec fd.code fd.qualname:=hcd.keeps R.base
    generalize hres:execSs cx.T (Af cx.T d) f.body (args.map some++List.replicate f.nvars none) H=res at main
    cases res with
    | bad=>trivial
    | next Γ' H' =>
     refine wpAny_call (codeAny_call_cells (by have:=room.depth;exact o30 this) (R.base _ _ ho) hdata hlim hcd' hbody hbind hclo hkind (fun s₁ x=>?_) c8 c9 c10)
     rw [henv] at x ⊢
     obtain ⟨F0,sim⟩:=main s₁ x
     exact zE sim (fun fl s' ⟨h1,ρ',F1,R',_⟩=>by refine Eq.symm h1▸?_;exact ⟨ρ',back F0 F1 cf,R',.none⟩) fun _ _ q=>q.elim
    | ret v H' =>
     refine wpAny_call (codeAny_call_cells (by have:=room.depth;exact o30 this) (R.base _ _ ho) hdata hlim hcd' hbody hbind hclo hkind (fun s₁ x=>?_) c8 c9 c10)
     rw [henv] at x ⊢
     obtain ⟨F0,sim⟩:=main s₁ x
     exact zE sim (fun fl s' ⟨v',ρ',h1,F1,R',vr⟩=>by refine Eq.symm h1▸?_;exact ⟨ρ',back F0 F1 cf,R',vr.1⟩) fun _ _ q=>q.elim
    | exc c Γ' H' =>
     refine wpAny_call (codeAny_call_cells (by have:=room.depth;exact o30 this) (R.base _ _ ho) hdata hlim hcd' hbody hbind hclo hkind (fun s₁ x=>?_) c8 c9 c10)
     rw [henv] at x ⊢
     obtain ⟨F0,sim⟩:=main s₁ x
     refine zE sim (fun _ _ q=>q.elim) fun e s' ⟨ρ',F1,R',e0,fl⟩=>?_
     have w:Aw (env :: l) ρ' s'.heap:=fun en he=>by
      rcases List.mem_cons.mp he with rfl | he
      · refine Ae fun G kG=>?_
        refine ex1 e0.st.loc fun m zz=>ex3 zz fun o' es ep zz=>Ap zz fun eo' d' _=>?_
        refine kG ?_
        exact ⟨by rw [e0.st.fn];simp,en.locals,o',efr,e0.st.locB,eo',⟨_,_,d'⟩,e0.st.locN⟩
      · exact (fok.full (back F0 F1 cf)) en he
     exact Sb (by show A.frames.map (env :: ·)=_;rw [hfr];rfl) efr w R' (fun b o e=>F0.live b o (R.base b o e)) F1.live fl fun h' o' fl'=>⟨ρ',back F0 (o'.fullS F1) cf,o'.rel R',fl'.to.older F0.live⟩
  · rw [if_neg hl];trivial
theorem Hl.step(B:Base)(hb:Aap (Af cx.T d) d):Hl (Af cx.T (d+1)) (d+1) :=
 fun k a args vals A l hk room hfr=>Nz B hk room.q hfr fun f stmts env sc ns _ h1 h2 h3 h4=>hb f.body stmts env sc ns (A.deeper env) l h1 h2 (Room.deeper room env) h3 h4
end
inductive ItOk(xs:List Val)(I:Addr)(i:Nat)(ρ:Rho)(h:Heap):Option Nat->Prop
 | list {l:Nat} {p:Addr × Addr}:ρ[l]?=some p->h.IsListIter I p.1 i->ItOk xs I i ρ h (some l)
 | tup {a:Addr} {vs:List Value} {n:Nat}:h.get? a=some (Qh vs n)->¬Av ρ a->VRs ρ h xs vs->h.IsTupleIter I a i->ItOk xs I i ρ h none
 | rng {n:Int}:xs=(List.range n.toNat).map (fun (k:Nat)=>Val.int (k:Int))->IsRangeIter h I (i:Nat) ((n.toNat:Int) - (i:Nat)) 1->ItOk xs I i ρ h none
noncomputable def Go(o:Obj):Prop:=(∃ vs,o.data=.fields vs)/\∃ n,o.cls=.type n/\n≠"range"
theorem Go.not{o:Obj}(x:Go o):¬Fo o/\∀ C,¬C8 o C:=by
 refine Ae fun G kG=>?_
 refine Ac x fun zn0 zz=>ex1 zz fun n zz=>Ac zz fun c ne=>?_;obtain ⟨vs,d⟩:=zn0
 refine kG ?_
 refine ⟨fun f=>?_,fun C f=>?_⟩
 · rcases f with ⟨_,xs,k,f⟩ | ⟨f,_⟩
   · rw [d] at f;cases f
   · rw [c] at f;cases f;exact ne rfl
 · rw [f.1] at c;cases c
theorem Go.notDict{o:Obj}(x:Go o)(es:Array DictEntry)(n:Nat):o.data≠.dict es n:=by
 obtain ⟨⟨vs,d⟩,_⟩:=x
 rw [d];exact fun q=>nomatch q
theorem Go.notCell{o:Obj}(x:Go o)(v:Option Value):o.data≠.cell v:=by
 obtain ⟨⟨vs,d⟩,_⟩:=x
 rw [d];exact fun q=>nomatch q
theorem Ew{vs:List Value}{n:Nat}:¬Fo (Bp vs n)/\∀ C,¬C8 (Bp vs n) C:=by
 refine ⟨fun f=>?_,fun C f=>by cases f.1⟩
 rcases f with ⟨f,_⟩ | ⟨f,_⟩
 · exact absurd (Value.type.inj f) (by decide)
 · exact absurd (Value.type.inj f) (by decide)
section
variable{A:Around}{xs:List Val}{I:Addr}{i:Nat}{ρ ρ':Rho}{s:Shared}{H:Hp}{src:Option Nat}
theorem ItOk.step{h h':Heap}(x:ItOk xs I i ρ h src)(st:Step ρ h ρ' h')(k:∀ o,h.get? I=some o->h'.get? I=some o):ItOk xs I i ρ' h' src:=by
 cases x with
 | list hp hi=>exact .list (st.get hp) (hi.at k)
 | tup e n r hi=>exact .tup (st.keepT _ _ e (.inl ⟨rfl,_,_,rfl⟩) n).1 (st.keepT _ _ e (.inl ⟨rfl,_,_,rfl⟩) n).2 (r.step st) (hi.at k)
 | rng e hi=>exact .rng e (k _ hi)
theorem ItOk.obj{h:Heap}(x:ItOk xs I i ρ h src):∃ o,h.get? I=some o/\Go o:=by
 cases x with
 | list hp hi=>refine ex1 hi fun o zz=>Ap zz fun e c d=>?_;exact ⟨o,e,⟨_,d⟩,_,c,by decide⟩
 | tup e n r hi=>refine ex1 hi fun o zz=>Ap zz fun e c d=>?_;exact ⟨o,e,⟨_,d⟩,_,c,by decide⟩
 | rng e hi=>exact ⟨_,hi,⟨_,rfl⟩,_,rfl,by decide⟩
theorem Lb{v:Val}{w:Value}(R:Rel H ρ s)(vr:VR ρ s.heap v w)(e:C0 v H=some (xs,src)){Q:Value->Shared->Prop}{E:Value->Shared->Prop}
 (k:∀ o,(s.heap.push o).get? s.heap.objs.size=some o->ItOk xs s.heap.objs.size 0 ρ (s.heap.push o) src->Q (.ref s.heap.objs.size) { s with heap:=s.heap.push o }) :
 wpAny (model cx.prog cx.w) A (pyIter w) Q E s:=by
 have P:=fun o=>Full.push ρ s.heap o
 cases vr with
 | @loc l p hp =>
  · obtain ⟨hl,e⟩:=Xp e
    refine Ae fun G kG=>?_
    refine ex2 (R.listAt hl hp) fun vs n zz=>Cl zz fun _ g r z=>?_
    refine kG ?_
    subst e
    refine wpAny_pyIter_list (items:=vs.toArray) ⟨_,g,rfl,n,rfl⟩ (k _ (Heap.get?_push_size _ rfl) (.list hp ⟨_,Heap.get?_push_size _ rfl,rfl,rfl⟩))
 | @tup a vs n ms g no z r =>
  cases e
  exact wpAny_pyIter_tuple (items:=vs.toArray) ⟨_,g,rfl,n,rfl⟩ (k _ (Heap.get?_push_size _ rfl) (.tup (Heap.get?_push_of_some _ g) no (r.step (P _).step) ⟨_,Heap.get?_push_size _ rfl,rfl,rfl⟩))
 | @rng a n t u v g no z1 z2 =>
  cases e
  refine wpAny_pyIter_range g (small_one (by decide) (by decide) z1 z2) (k _ (Heap.get?_push_size _ rfl) (.rng rfl ?_))
  have e1:Builtin.Range.rangeSize 0 n 1=((n.toNat:Nat):Int):=by rw [rangeSize_one];exact rs1
  rw [e1]
  simpa using Heap.get?_push_size s.heap (o:={ cls:=.type "range_iterator",data:=.fields #[rawInt 0,rawInt (n.toNat:Int),rawInt 1] }) rfl
 | _=>exact Ad e
theorem N0(R:Rel H ρ s)(x:ItOk xs I i ρ s.heap src)(ck:chk src xs H=true){m:Val}(hm:xs[i]?=some m){Q:Option Value->Shared->Prop}{E:Value->Shared->Prop}
 (k:∀ v h' tk,Heap.SameBut I s.heap h'->(∃ o,h'.get? I=some o)->(∀ st:Step ρ s.heap ρ h',VR ρ h' m v/\ItOk xs I (i+1) ρ h' src)->Q (some v) { s with heap:=h',toks:=tk }) :
 wpAny (model cx.prog cx.w) A (pyNext (.ref I)) Q E s:=by
 cases x with
 | @list l p hp hi =>
  · refine Ae fun G kG=>?_
    refine ex2 (R.listAt (Tq ck) hp) fun vs n zz=>Cl zz fun _ g r z=>?_
    refine ex1 (r.get hm) fun v zz=>Ac zz fun ev vr=>?_
    refine kG ?_
    exact wpAny_pyNext_list_item (items:=vs.toArray) hi ⟨_,g,rfl,n,rfl⟩ (by simpa using ev) fun h' hi' hs=>k v h' s.toks hs (by refine ex1 hi' fun o zz=>Ac zz fun e _=>?_;exact ⟨o,e⟩) fun st=>⟨vr.step st,.list hp hi'⟩
 | @tup a vs n g no r hi =>
  refine ex1 (r.get hm) fun v zz=>Ac zz fun ev vr=>?_
  refine wpAny_pyNext_tuple_item (items:=vs.toArray) hi ⟨_,g,rfl,n,rfl⟩ (by simpa using ev) fun h' hi' hs=>k v h' s.toks hs (by refine ex1 hi' fun o zz=>Ac zz fun e _=>?_;exact ⟨o,e⟩) fun st=>⟨vr.step st,.tup (st.keepT _ _ g (.inl ⟨rfl,_,_,rfl⟩) no).1 no (r.step st) hi'⟩
 | @rng n e hi =>
  subst e
  have lt:i < n.toNat:=by
   have:=(List.getElem?_eq_some_iff.mp hm).1
   simpa using this
  have hm':m=.int (i:Int):=by
   rw [List.getElem?_map,List.getElem?_range lt] at hm
   simpa using hm.symm
  subst hm'
  refine wpAny_pyNext_range_item hi (by exact o31 lt) fun h' hi' hs=>k _ h' _ hs ⟨_,hi'⟩ fun st=>⟨.int _ _,.rng rfl ?_⟩
  have e1:((i+1:Nat):Int)=(i:Int)+1:=by exact o32
  have e2:((n.toNat:Int) - ((i+1:Nat):Int))=(n.toNat:Int) - (i:Int) - 1:=by exact o33
  rw [e1,<- e1,e2]
  exact hi'
theorem Qt(hh:A.handled=none)(R:Rel H ρ s)(x:ItOk xs I i ρ s.heap src)(ck:chk src xs H=true)(hm:xs[i]?=none){Q:Option Value->Shared->Prop}{E:Value->Shared->Prop}
 (k:∀ h' tk,Heap.ExtBut I s.heap h'->Q none { s with heap:=h',toks:=tk }):wpAny (model cx.prog cx.w) A (pyNext (.ref I)) Q E s:=by
 cases x with
 | @list l p hp hi =>
  · refine Ae fun G kG=>?_
    refine ex2 (R.listAt (Tq ck) hp) fun vs n zz=>Cl zz fun _ g r z=>?_
    refine kG ?_
    have len:=r.length
    refine wpAny_pyNext_list_end (items:=vs.toArray) hh hi ⟨_,g,rfl,n,rfl⟩ ?_ fun h' he=>k h' s.toks he
    rw [List.getElem?_eq_none_iff] at hm
    simp;exact o34 len hm
 | @tup a vs n g no r hi =>
  have len:=r.length
  refine wpAny_pyNext_tuple_end (items:=vs.toArray) hh hi ⟨_,g,rfl,n,rfl⟩ ?_ fun h' he=>k h' s.toks he
  rw [List.getElem?_eq_none_iff] at hm
  simp;exact o34 len hm
 | @rng n e hi =>
  subst e
  rw [List.getElem?_eq_none_iff] at hm
  simp at hm
  exact wpAny_pyNext_range_end hh hi (by exact o35 hm) fun h' he=>k h' s.toks he
end
theorem Step.priv{ρ:Rho}{h h':Heap}(qs:List Addr)(hq:∀ q∈qs,∀ o,h.get? q=some o->¬Fo o/\∀ C,¬C8 o C)(k:∀ b o,b ∉ qs->h.get? b=some o->h'.get? b=some o):Step ρ h ρ h' :=
 ⟨⟨[],by simp⟩,fun b o e f n=>⟨k b o (fun w=>(hq b w o e).1 f) e,n⟩,fun b o C e f n=>⟨o,k b o (fun w=>(hq b w o e).2 C f) e,f,n⟩⟩
section
variable{A:Around}{P:Amb}{xs:List Val}{ρ:Rho}{H:Hp}{src:Option Nat}
noncomputable abbrev leastFrom(ys:List Val)(m:Val):Option Val:=ys.foldl (fun m y=>m.bind fun m=>(Jr Fi y m).map fun b=>if b=true then y else m) (some m)
end
end Mine.Internal
namespace Mine.Internal
open PySem PySem.W PySem.Calls PyProof.Rows
section
variable{A:Around}{xs:List Val}{ρ:Rho}{H:Hp}{s:Shared}
theorem Pa{l:Nat}{q:Addr × Addr}{E:Value->Shared->Prop}{Q:List Value->Shared->Prop}(hh:A.handled=none)(R:Rel H ρ s)(hq:ρ[l]?=some q)(hx:Ej l H=some xs)(hl:xs.length<=sizeLine)
 (k:∀ h' tk vs,(∀ b o,s.heap.get? b=some o->h'.get? b=some o)->VRs ρ h' xs vs->Q vs { s with heap:=h',toks:=tk }):wpAny (model cx.prog cx.w) A (collect (.ref q.1)) Q E s:=by
 refine Ae1 (C:=fun xs=>xs.length<=sizeLine->(∀ h' tk vs,(∀ b o,s.heap.get? b=some o->h'.get? b=some o)->VRs ρ h' xs vs->Q vs { s with heap:=h',toks:=tk })->wpAny (model cx.prog cx.w) A (collect (.ref q.1)) Q E s) hx ?_ hl k
 · intro xs hl z k
   refine Ae fun G kG=>?_
   refine ex2 (R.listAt hl hq) fun vs n zz=>Cl zz fun _ g r _=>?_
   refine kG ?_
   have kp:∀ b o,s.heap.get? b=some o->((s.heap.push (seqObj "list" #[] 0)).update s.heap.objs.size (Obj.mapSeq (·++vs.toArray))).get? b=some o:=fun b o e =>
    (Heap.get?_update_other _ _ (Nat.ne_of_gt (Heap.lt_size e))).trans (Heap.get?_push_of_some _ e)
   exact collect_list (vs:=vs) ⟨_,g,rfl,n,rfl⟩ (k _ s.toks vs kp (r.step (Full.more kp).step)) (by rw [<- r.length];exact z)
end
end Mine.Internal
namespace Mine.Internal
open PySem PyProof.Rows
noncomputable def N1(M:Model)(A:Around)(s:Shared)(κ:SortKind)(S:Keyed->Prop)(ρ:Keyed->Nat):Prop :=
 ∀ x y,S x->S y->∀ (Q:Bool->Shared->Prop) (E:Value->Shared->Prop),Q (decide (ρ x < ρ y)) s->wpAny M A (keyLt' κ x.1 y.1) Q E s
noncomputable def gt(a:Array Keyed)(i:Nat):Keyed:=a.getD i (Value.none,Value.none)
structure Bg(κ:SortKind)(a₀:Array Keyed)(st:SortSt):Prop where
 kind:kindOf st=κ
 fail:failedOf st=none
 perm:(arrOf st).toList.Perm a₀.toList
noncomputable def Asc(ρ:Keyed->Nat)(arr:Array Keyed)(lo n:Nat):Prop:=∀ p q,lo<=p->p < q->q < lo+n->ρ (gt arr p) < ρ (gt arr q)
noncomputable def Sc(p:Model × Around × (Value->Shared->Prop) × Shared × SortKind × (Keyed->Nat) × Array Keyed):Prop :=
 N1 p.1 p.2.1 p.2.2.2.1 p.2.2.2.2.1 (·∈p.2.2.2.2.2.2.toList) p.2.2.2.2.2.1->(p.2.2.2.2.2.2.toList.map p.2.2.2.2.2.1).Nodup->2<=p.2.2.2.2.2.2.size->∀ {st:SortSt} {Q:Unit->SortSt->Prop},Bg p.2.2.2.2.1 p.2.2.2.2.2.2 st->pendingOf st=#[]->(∀ st',Bg p.2.2.2.2.1 p.2.2.2.2.2.2 st'->Asc p.2.2.2.2.2.1 (arrOf st') 0 p.2.2.2.2.2.2.size->Q () st')->wpS p.1 p.2.1 p.2.2.1 p.2.2.2.1 sortRuns' Q st
theorem Ee:∃ p,(∃ c,¬Sc c)->¬Sc p:=by
 by_cases h:∃ c,¬Sc c
 · obtain ⟨c,hc⟩:=h;exact ⟨c,fun _=>hc⟩
 · exact ⟨(model cx.prog cx.w,callerA,fun _ _=>True,cx.s₀,oneType',fun _=>0,#[]),fun x=>absurd x h⟩
noncomputable def sM:Model:=Ee.choose.1
noncomputable def sA:Around:=Ee.choose.2.1
noncomputable def sE:Value->Shared->Prop:=Ee.choose.2.2.1
noncomputable def sS:Shared:=Ee.choose.2.2.2.1
noncomputable def sK:SortKind:=Ee.choose.2.2.2.2.1
noncomputable def sR:Keyed->Nat:=Ee.choose.2.2.2.2.2.1
noncomputable def sZ:Array Keyed:=Ee.choose.2.2.2.2.2.2
noncomputable def sP:Keyed->Prop:=(·∈sZ.toList)
theorem Yd(h:Sc (sM,sA,sE,sS,sK,sR,sZ)) c:Sc c:=Classical.byContradiction fun k=>Ee.choose_spec ⟨c,k⟩ h
noncomputable def Mg:Bool->Keyed->Array Keyed->Nat->Nat->Nat->StateT SortSt Sem (Option Nat):=sortPriv% PySem.Builtin.gallop
section
variable{st:SortSt}
theorem Ag1(C:N1 sM sA sS sK sP sR){x y:Keyed}{Q:Option Bool->SortSt->Prop}(hk:kindOf st=sK)(hx:sP x)(hy:sP y)(h:Q (some (decide (sR x < sR y))) st):wpS sM sA sE sS (lt' x y) Q st:=by
 rw [lt'_eq]
 refine wpS_bind (wpS_get ?_)
 rw [hk]
 refine wpS_bind (wpS_lift (wpAny_attempt (C x y hx hy _ _ ⟨rfl,?_⟩)))
 exact wpS_pure h
theorem Us{arr:Array Keyed}{i:Nat}{x:Keyed}{Q:Keyed->SortSt->Prop}(hx:arr[i]?=some x)(h:Q x st):wpS sM sA sE sS (elem' arr i) Q st:=by
 rw [elem'_eq,hx]
 exact wpS_pure h
theorem Qu{a:Array Keyed}{ia:Nat}(h:ia < a.size):a[ia]?=some (gt a ia):=by
 unfold gt
 rw [Array.getD_eq_getD_getElem?,Array.getElem?_eq_getElem h];rfl
theorem Dh{α:Type}{c:Prop}[Decidable c]{m1 m2:StateT SortSt Sem α}{Q:α->SortSt->Prop}(h1:c->wpS sM sA sE sS m1 Q st)(h2:¬c->wpS sM sA sE sS m2 Q st):wpS sM sA sE sS (if c then m1 else m2) Q st:=by
 by_cases h:c
 · rw [if_pos h];exact h1 h
 · rw [if_neg h];exact h2 h
section
variable{α β:Type}{Q:β->SortSt->Prop}
theorem Afp{m:StateT SortSt Sem α}{f:α->StateT SortSt Sem β}(P:α->SortSt->Prop)(h1:wpS sM sA sE sS m P st)(h2:∀ a st',P a st'->wpS sM sA sE sS (f a) Q st'):wpS sM sA sE sS (m>>=f) Q st:=wpS_bind (wpS_mono h1 h2)
theorem Lc{n:String}{f:PUnit->StateT SortSt Sem β}(h:wpS sM sA sE sS (f ⟨⟩) Q st):wpS sM sA sE sS (liftM (rule n)>>=f) Q st:=wpS_bind (wpS_lift (wpAny_rule ⟨rfl,h⟩))
theorem N2{f:SortSt->StateT SortSt Sem β}(h:wpS sM sA sE sS (f st) Q st):wpS sM sA sE sS (get>>=f) Q st:=wpS_bind (wpS_get h)
theorem Ck{arr:Array Keyed}{i:Nat}{f:Keyed->StateT SortSt Sem β}(hx:i < arr.size)(h:wpS sM sA sE sS (f (gt arr i)) Q st):wpS sM sA sE sS (elem' arr i>>=f) Q st:=wpS_bind (Us (Qu hx) h)
theorem Akf(C:N1 sM sA sS sK sP sR){x y:Keyed}{f:Option Bool->StateT SortSt Sem β}(hk:kindOf st=sK)(hx:sP x)(hy:sP y)(h:wpS sM sA sE sS (f (some (decide (sR x < sR y)))) Q st):wpS sM sA sE sS (lt' x y>>=f) Q st:=wpS_bind (Ag1 C hk hx hy h)
theorem Qv{g:Nat}{f:Unit->StateT SortSt Sem β}(h:wpS sM sA sE sS (f ()) Q (SortSt.mk' (kindOf st) (arrOf st) (pendingOf st) g (failedOf st))):wpS sM sA sE sS ((modify fun sS=>SortSt.mk' (kindOf sS) (arrOf sS) (pendingOf sS) g (failedOf sS))>>=f) Q st:=wpS_bind (wpS_modify h)
theorem El{n k:Nat}{m1 m2:StateT SortSt Sem β}(h1:n=k->wpS sM sA sE sS m1 Q st)(h2:n≠k->wpS sM sA sE sS m2 Q st):wpS sM sA sE sS (if (n == k)=true then m1 else m2) Q st:=Dh (fun h=>h1 (eq_of_beq h)) fun h=>h2 fun e=>h (beq_iff_eq.mpr e)
theorem Ld{c:Bool}{m1 m2:StateT SortSt Sem β}(h1:c=true->wpS sM sA sE sS m1 Q st)(h2:c=false->wpS sM sA sE sS m2 Q st):wpS sM sA sE sS (if c=true then m1 else m2) Q st:=Dh h1 fun h=>h2 (Bool.eq_false_iff.mpr h)
theorem Gp{a b:Nat}{γ:Type}{F:Nat->γ->StateT SortSt Sem (ForInStep γ)}{f:γ->StateT SortSt Sem β}{c:γ}(I:Nat->γ->SortSt->Prop)(P:γ->SortSt->Prop)
 (h0:I a c st) (step:∀ i c st,a<=i->i < b->I i c st->∀ R:ForInStep γ->SortSt->Prop,(∀ c st,I (i+1) c st->R (.yield c) st)->(∀ c st,P c st->R (.done c) st)->wpS sM sA sE sS (F i c) R st) (fin:∀ c st,I (max a b) c st->P c st) (h:∀ c st,P c st->wpS sM sA sE sS (f c) Q st) :
 wpS sM sA sE sS (forIn [a:b] c F>>=f) Q st:=Afp P (wpS_forRange I (fun i c st h1 h2 h3=>step i c st h1 h2 h3 _ (fun _ _ h=>h) fun _ _ h=>h) fin h0) h
end
structure Bn(b:Nat->Bool)(n k lo hi:Nat):Prop where
 l1:lo<=hi
 l2:hi<=n
 l3:hi - lo<=n - k
 l4:∀ i,i < lo->b i=true
 l5:∀ i,hi<=i->i < n->b i=false
section
variable{b:Nat->Bool}{n k lo hi hint of:Nat}
noncomputable def Pb(b:Nat->Bool)(n:Nat):Prop:=∀ i j,i<=j->j < n->b j=true->b i=true
theorem Pb.no(bm:Pb b n){i j:Nat}(hij:i<=j)(hj:j < n)(h:b i=false):b j=false:=by
 cases y:b j with
 | false=>rfl
 | true=>rw [bm i j hij hj y] at h;exact nomatch h
theorem Ag2(h:¬hi<=lo):lo+(hi - lo) / 2 < hi:=by exact o36 h
theorem Bn.up(B:Bn b n k lo hi)(bm:Pb b n)(h:¬hi<=lo)(z:b (lo+(hi - lo) / 2)=true):Bn b n (k+1) (lo+(hi - lo) / 2+1) hi :=
 ⟨Ag2 h,B.l2,by have:=B.l3;exact o37 this h,fun i hi=>bm i _ (zK hi) (zD (Ag2 h) B.l2) z,B.l5⟩
theorem Bn.down(B:Bn b n k lo hi)(bm:Pb b n)(h:¬hi<=lo)(z:b (lo+(hi - lo) / 2)=false):Bn b n (k+1) lo (lo+(hi - lo) / 2) :=
 ⟨zM _ _,zC (zL (Ag2 h)) B.l2,by have:=B.l3;exact o38 this h,B.l4,fun i h1 h2=>bm.no h1 h2 z⟩
theorem Bn.same(B:Bn b n k lo hi)(h:hi<=lo):lo=hi:=Nat.le_antisymm B.l1 h
theorem Bn.fin(B:Bn b n (max 0 n) lo hi):lo=hi:=by have:=B.l1;have:=B.l3;omega
structure Rt(b:Nat->Bool)(n hint k lo of:Nat):Prop where
 l1:lo < of
 l2:k+1<=of
 l3:hint+lo < n
 l4:b (hint+lo)=true
structure Lf(b:Nat->Bool)(hint k lo of:Nat):Prop where
 l1:lo < of
 l2:k+1<=of
 l3:lo<=hint
 l4:b (hint - lo)=false
theorem Ye(h:k+1<=of):of < 2 * of+1/\k+1+1<=2 * of+1:=by exact o39 h
theorem Rt.more(B:Rt b n hint k lo of)(h:¬of ≥ n - hint)(z:b (hint+of)=true):Rt b n hint (k+1) of (2 * of+1):=⟨(Ye B.l2).1,(Ye B.l2).2,by exact o40 h,z⟩
theorem Lf.more(B:Lf b hint k lo of)(h:¬of ≥ hint+1)(z:b (hint - of)=false):Lf b hint (k+1) of (2 * of+1):=⟨(Ye B.l2).1,(Ye B.l2).2,by exact o41 h,z⟩
theorem Rt.fin(B:Rt b n hint k lo of)(bm:Pb b n)(h:n - hint<=of\/(hint+of < n/\b (hint+of)=false)):Bn b n 0 (hint+lo+1) (hint+min of (n - hint)):=by
 have l1:=B.l1
 have l3:=B.l3
 refine ⟨by exact o42 l3 l1,by exact o43 l3,by exact o44 l3,fun i h=>bm i _ (zK h) l3 B.l4,fun i h1 h2=>?_⟩
 rcases h with h | h
 · exact (o45 h1 l3 h h2).elim
 · exact bm.no (by exact o46 h1 l3 h2) h2 h.2
theorem Lf.fin(B:Lf b hint k lo of)(bm:Pb b n)(hh:hint < n)(h:hint+1<=of\/(of<=hint/\b (hint - of)=true)):Bn b n 0 (hint+1 - min of (hint+1)) (hint - lo):=by
 have l1:=B.l1
 have l3:=B.l3
 refine ⟨by exact o47 l1 l3,by exact o48 hh l3,by exact o49 hh,fun i q=>?_,fun i h1 h2=>bm.no h1 h2 B.l4⟩
 rcases h with h | h
 · exact (o50 h q).elim
 · exact bm i _ (by omega) (by omega) h.2
end
theorem Yg(C:N1 sM sA sS sK sP sR){left:Bool}{key:Keyed}{arr:Array Keyed}{base n hint:Nat}{Q:Option Nat->SortSt->Prop}(hk:kindOf st=sK)(hS:sP key)(hx:∀ i,i < n->base+i < arr.size/\sP (gt arr (base+i)))(mono:∀ i j,i < j->j < n->sR (gt arr (base+i)) < sR (gt arr (base+j)))(hh:hint < n)
 (q:∀ k,k<=n->(∀ i,i < k->if left=true then sR (gt arr (base+i)) < sR key else sR (gt arr (base+i))<=sR key)->(∀ i,k<=i->i < n->if left=true then sR key<=sR (gt arr (base+i)) else sR key < sR (gt arr (base+i)))->Q (some k) st) :
 wpS sM sA sE sS (Mg left key arr base n hint) Q st:=by
 obtain ⟨b,ask,fin,bm⟩:∃ b:Nat->Bool,(∀ {β:Type} {f:Option Bool->StateT SortSt Sem β} {Q:β->SortSt->Prop} (i:Nat),i < n->wpS sM sA sE sS (f (some (b i))) Q st->wpS sM sA sE sS ((do
  let x<-elem' arr (base+i)
  if left=true then lt' x key else do
   let r<-lt' key x
   pure (Option.map (fun x=>!x) r))>>=f) Q st)/\(∀ lo,lo<=n->(∀ i,i < lo->b i=true)->(∀ i,lo<=i->i < n->b i=false)->Q (some lo) st)/\Pb b n:=by
  cases left with
  | true =>
   refine ⟨fun i=>decide (sR (gt arr (base+i)) < sR key),fun i hi h=>wpS_bind (Ck (hx i hi).1 (Ag1 C hk (hx i hi).2 hS h)),fun lo l1 l2 l3=>q lo l1 (fun i h=>of_decide_eq_true (l2 i h)) fun i h1 h2=>Nat.not_lt.mp (of_decide_eq_false (l3 i h1 h2)),fun i j hij hj h=>decide_eq_true ?_⟩
   have h:=of_decide_eq_true h
   by_cases e:i=j
   · rw [e];exact h
   · exact Nat.lt_trans (mono i j (Nat.lt_of_le_of_ne hij e) hj) h
  | false =>
   refine ⟨fun i=>!decide (sR key < sR (gt arr (base+i))),fun i hi h=>wpS_bind (Ck (hx i hi).1 (wpS_bind (Ag1 C hk hS (hx i hi).2 (wpS_pure h)))),fun lo l1 l2 l3=>q lo l1 (fun i h=>Nat.not_lt.mp (of_decide_eq_false ((Bool.not_eq_true' _).mp (l2 i h)))) fun i h1 h2=>of_decide_eq_true ((Bool.not_eq_false' _).mp (l3 i h1 h2)),fun i j hij hj h=>(Bool.not_eq_true' _).mpr (decide_eq_false ?_)⟩
   have h:=of_decide_eq_false ((Bool.not_eq_true' _).mp h)
   by_cases e:i=j
   · rw [e];exact h
   · exact fun w=>h (Nat.lt_trans w (mono i j (Nat.lt_of_le_of_ne hij e) hj))
 delta Mg
 k_delta "gallop"
 extract_lets -underBinder +onlyGivenNames bey z0 z1
 refine ask hint hh ?_
 dsimp -zeta only
 extract_lets -underBinder +onlyGivenNames jp
 have last:∀ l o lo hi,Bn b n 0 lo hi->wpS sM sA sE sS (jp () l o lo hi) Q st:=by
  intro l o lo hi B
  refine Gp (fun k c st'=>st=st'/\c.1=none/\Bn b n k c.2.1 c.2.2) (fun c st'=>st=st'/\c.1=none/\∃ k,Bn b n k c.2.1 c.2.2/\c.2.1=c.2.2) ⟨rfl,rfl,B⟩ ?step (fun c st' h=>⟨h.1,h.2.1,_,h.2.2,h.2.2.fin⟩) ?post
  case post =>
   rintro ⟨_,lo,hi⟩ _ ⟨rfl,rfl,k,B,e⟩
   have e:lo=hi:=e
   subst e
   exact wpS_pure (fin _ B.l2 B.l4 B.l5)
  case step =>
   rintro k c _ _ _ ⟨rfl,_,B⟩ R R1 R2
   extract_lets -underBinder +onlyGivenNames s1 lo hi m
   have B:Bn b n k lo hi:=B
   clear_value lo hi
   exact Dh (fun c=>wpS_pure (R2 _ _ ⟨rfl,rfl,k,B,B.same c⟩)) fun c=>ask (lo+(hi - lo) / 2) (zD (Ag2 c) B.l2) (Ld (fun z=>wpS_pure (R1 _ _ ⟨rfl,rfl,B.up bm c z⟩)) fun z=>wpS_pure (R1 _ _ ⟨rfl,rfl,B.down bm c z⟩))
 clear_value jp
 refine Ld (fun z=>?_) fun z=>?_
 · extract_lets -underBinder +onlyGivenNames mo
   refine Gp (fun k c st'=>st=st'/\c.1=none/\Rt b n hint k c.2.1 c.2.2) (fun c st'=>st=st'/\c.1=none/\∃ k,Rt b n hint k c.2.1 c.2.2/\(n - hint<=c.2.2\/(hint+c.2.2 < n/\b (hint+c.2.2)=false))) ⟨rfl,rfl,Nat.zero_lt_one,zI _,hh,z⟩ ?step (fun c st' h=>⟨h.1,h.2.1,_,h.2.2,.inl (by have:=h.2.2.l2;exact o51 this hh)⟩) ?post
   case post =>
    rintro ⟨_,lo,of⟩ _ ⟨rfl,rfl,k,B,e⟩
    exact last _ _ _ _ (B.fin bm e)
   case step =>
    rintro k c _ _ _ ⟨rfl,_,B⟩ R R1 R2
    extract_lets -underBinder +onlyGivenNames s1 lo of
    have B:Rt b n hint k lo of:=B
    clear_value lo of
    refine Dh (fun c=>wpS_pure (R2 _ _ ⟨rfl,rfl,k,B,.inl c⟩)) fun c=>?_
    have lt:hint+of < n:=by have:¬of ≥ n - hint:=c;omega
    exact ask (hint+of) lt (Ld (fun z=>wpS_pure (R2 _ _ ⟨rfl,rfl,k,B,.inr ⟨lt,(Bool.not_eq_true' _).mp z⟩⟩)) fun z=>wpS_pure (R1 _ _ ⟨rfl,rfl,B.more c ((Bool.not_eq_false' _).mp z)⟩))
 · extract_lets -underBinder +onlyGivenNames mo
   refine Gp (fun k c st'=>st=st'/\c.1=none/\Lf b hint k c.2.1 c.2.2) (fun c st'=>st=st'/\c.1=none/\∃ k,Lf b hint k c.2.1 c.2.2/\(hint+1<=c.2.2\/(c.2.2<=hint/\b (hint - c.2.2)=true))) ⟨rfl,rfl,Nat.zero_lt_one,zI _,Nat.zero_le _,z⟩ ?step (fun c st' h=>⟨h.1,h.2.1,_,h.2.2,.inl (by have:=h.2.2.l2;exact o52 this hh)⟩) ?post
   case post =>
    rintro ⟨_,lo,of⟩ _ ⟨rfl,rfl,k,B,e⟩
    exact last _ _ _ _ (B.fin bm hh e)
   case step =>
    rintro k c _ _ _ ⟨rfl,_,B⟩ R R1 R2
    extract_lets -underBinder +onlyGivenNames s1 lo of
    have B:Lf b hint k lo of:=B
    clear_value lo of
    refine Dh (fun c=>wpS_pure (R2 _ _ ⟨rfl,rfl,k,B,.inl c⟩)) fun c=>?_
    have le:of<=hint:=zK (Nat.lt_of_not_le c)
    exact ask (hint - of) (zA (Nat.sub_le _ _) hh) (Ld (fun z=>wpS_pure (R2 _ _ ⟨rfl,rfl,k,B,.inr ⟨le,z⟩⟩)) fun z=>wpS_pure (R1 _ _ ⟨rfl,rfl,B.more c z⟩))
end
section
variable{a b:Array Keyed}{out:List Keyed}{ia ib k:Nat}{x y:Keyed}
theorem Do(h:ia < a.size):a.toList[ia]?=some (gt a ia):=by rw [Array.getElem?_toList];exact Qu h
noncomputable def Srt(ρ:Keyed->Nat)(l:List Keyed):Prop:=l.Pairwise fun x y=>ρ x < ρ y
theorem Srt.at(h:Srt sR a.toList){i j:Nat}(hij:i < j)(hj:j < a.size):sR (gt a i) < sR (gt a j):=by
 have:=List.pairwise_iff_getElem.mp h i j (by rw [Array.length_toList];exact o53 hij hj) (by rw [Array.length_toList];assumption) hij
 have e1:a.toList[i]?=some (gt a i):=Do (by exact o53 hij hj)
 have e2:a.toList[j]?=some (gt a j):=Do hj
 rw [List.getElem?_eq_getElem (by rw [Array.length_toList];omega)] at e1 e2
 rw [<- Option.some.inj e1,<- Option.some.inj e2];exact this
theorem Ut{ρ:Keyed->Nat}(h:∀ i j,i < j->j < a.size->ρ (gt a i) < ρ (gt a j)):Srt ρ a.toList:=by
 refine List.pairwise_iff_getElem.mpr fun i j hi hj hij=>?_
 rw [Array.length_toList] at hi hj
 have e1:=Do hi
 have e2:=Do hj
 rw [List.getElem?_eq_getElem (by rw [Array.length_toList];assumption)] at e1 e2
 rw [Option.some.inj e1,Option.some.inj e2]
 exact h i j hij hj
theorem Aaq(h:x∈a.toList):∃ i,i < a.size/\x=gt a i:=by
 obtain ⟨i,hi⟩:=List.getElem?_of_mem h
 have lt:=(List.getElem?_eq_some_iff.mp hi).1
 rw [Array.length_toList] at lt
 rw [Do lt] at hi
 exact ⟨i,lt,(Option.some.inj hi).symm⟩
theorem Jh(h:x∈a.toList.drop ia):∃ i,ia<=i/\i < a.size/\x=gt a i:=by
 obtain ⟨i,hi⟩:=List.getElem?_of_mem h
 rw [List.getElem?_drop] at hi
 have lt:=(List.getElem?_eq_some_iff.mp hi).1
 rw [Array.length_toList] at lt
 rw [Do lt] at hi
 exact ⟨ia+i,by exact o54,lt,(Option.some.inj hi).symm⟩
theorem Hm(h:x∈(a.toList.drop ia).take k):∃ i,i < k/\ia+i < a.size/\x=gt a (ia+i):=by
 obtain ⟨i,hi⟩:=List.getElem?_of_mem h
 have lt:=(List.getElem?_eq_some_iff.mp hi).1
 rw [List.length_take,List.length_drop,Array.length_toList] at lt
 rw [List.getElem?_take_of_lt (by exact o55 lt),List.getElem?_drop,Do (by exact o56 lt)] at hi
 exact ⟨i,by exact o55 lt,by exact o56 lt,(Option.some.inj hi).symm⟩
theorem Ji(h:x∈a.toList.take k):∃ i,i < k/\i < a.size/\x=gt a i:=by
 rw [<- List.drop_zero (l:=a.toList)] at h
 refine ex1 (Hm h) fun i zz=>Ap zz fun h1 h2 h3=>?_
 rw [Nat.zero_add] at h2 h3
 exact ⟨i,h1,h2,h3⟩
theorem Hn(h:ia < a.size):(a.toList.drop ia).take 1=[gt a ia]:=by
 have e:=Do h
 rw [List.drop_eq_getElem_cons (by rw [Array.length_toList];exact h),List.take_succ_cons,List.take_zero]
 rw [List.getElem?_eq_getElem (by rw [Array.length_toList];exact h)] at e
 rw [Option.some.inj e]
structure MI(ρ:Keyed->Nat)(a b out:List Keyed)(ia ib:Nat):Prop where
 pa:Srt ρ (out++a.drop ia)
 pb:Srt ρ (out++b.drop ib)
 pm:(out++(a.drop ia++b.drop ib)).Perm (a++b)
 ln:out.length=ia+ib
theorem MI.swap{a b:List Keyed}(m:MI sR a b out ia ib):MI sR b a out ib ia :=
 ⟨m.pb,m.pa,(List.Perm.append_left _ List.perm_append_comm).trans (m.pm.trans List.perm_append_comm),m.ln.trans (Nat.add_comm _ _)⟩
theorem MI.move{a b:List Keyed}(m:MI sR a b out ia ib)(k:Nat)(hk:ia+k<=a.length)(h:∀ x∈(a.drop ia).take k,∀ y∈b.drop ib,sR x < sR y):MI sR a b (out++(a.drop ia).take k) (ia+k) ib:=by
 have e:(a.drop ia).take k++a.drop (ia+k)=a.drop ia:=by rw [<- List.drop_drop,List.take_append_drop]
 refine ⟨?_,?_,?_,?_⟩
 · rw [List.append_assoc,e];exact m.pa
 · refine Ap (List.pairwise_append.mp m.pb) fun p1 p2 p3=>?_
   refine Ap (List.pairwise_append.mp m.pa) fun q1 q2 q3=>?_
   refine List.pairwise_append.mpr ⟨List.pairwise_append.mpr ⟨p1,q2.sublist (List.take_sublist _ _),fun x hx y hy=>q3 x hx y (List.mem_of_mem_take hy)⟩,p2,fun x hx y hy=>?_⟩
   rcases List.mem_append.mp hx with hx | hx
   · exact p3 x hx y hy
   · exact h x hx y hy
 · rw [List.append_assoc,<- List.append_assoc ((a.drop ia).take k),e];exact m.pm
 · rw [List.length_append,List.length_take,List.length_drop,m.ln];exact o57 hk
theorem MI.done{a b:List Keyed}(m:MI sR a b out ia ib)(h:ia=a.length\/ib=b.length):(out++(a.drop ia++b.drop ib)).Perm (a++b)/\Srt sR (out++(a.drop ia++b.drop ib)):=by
 refine ⟨m.pm,?_⟩
 rcases h with h | h
 · rw [h,List.drop_length,List.nil_append,];exact m.pb
 · rw [h,List.drop_length,List.append_nil];exact m.pa
structure MH(ρ:Keyed->Nat)(a b out:List Keyed)(na nb:Nat):Prop where
 pa:Srt ρ (a.take na++out)
 pb:Srt ρ (b.take nb++out)
 pm:(a.take na++b.take nb++out).Perm (a++b)
 la:na<=a.length
 lb:nb<=b.length
 ln:out.length+na+nb=a.length+b.length
theorem MH.swap{a b:List Keyed}{na nb:Nat}(m:MH sR a b out na nb):MH sR b a out nb na :=
 ⟨m.pb,m.pa,(List.Perm.append_right _ List.perm_append_comm).trans (m.pm.trans List.perm_append_comm),m.lb,m.la,by have:=m.ln;exact o58 this⟩
theorem MH.move{a b:List Keyed}{na nb:Nat}(m:MH sR a b out na nb)(n:Nat)(hn:n<=na)(h:∀ x∈b.take nb,∀ y∈(a.take na).drop n,sR x < sR y):MH sR a b ((a.take na).drop n++out) n nb:=by
 have e:a.take n++(a.take na).drop n=a.take na:=by
  have:a.take n=(a.take na).take n:=by rw [List.take_take,Nat.min_eq_left hn]
  rw [this,List.take_append_drop]
 have la:=m.la
 refine ⟨?_,?_,?_,by exact o59 hn la,m.lb,?_⟩
 · rw [<- List.append_assoc,e];exact m.pa
 · refine Ap (List.pairwise_append.mp m.pb) fun p1 p2 p3=>?_
   refine Ap (List.pairwise_append.mp m.pa) fun q1 q2 q3=>?_
   refine List.pairwise_append.mpr ⟨p1,List.pairwise_append.mpr ⟨q1.sublist (List.drop_sublist _ _),p2,fun x hx y hy=>q3 x (List.mem_of_mem_drop hx) y hy⟩,fun x hx y hy=>?_⟩
   rcases List.mem_append.mp hy with hy | hy
   · exact h x hx y hy
   · exact p3 x hx y hy
 · refine List.Perm.trans ?_ m.pm
   rw [<- List.append_assoc]
   refine List.Perm.append_right _ ?_
   have p:a.take n++((a.take na).drop n++b.take nb)=a.take na++b.take nb:=by rw [<- List.append_assoc,e]
   rw [<- p,List.append_assoc]
   exact List.Perm.append_left _ List.perm_append_comm
 · rw [List.length_append,List.length_drop,List.length_take]
   have:=m.ln
   exact o60 this hn la
theorem MH.done{a b:List Keyed}{na nb:Nat}(m:MH sR a b out na nb)(h:na=0\/nb=0):(a.take na++b.take nb++out).Perm (a++b)/\Srt sR (a.take na++b.take nb++out):=by
 refine ⟨m.pm,?_⟩
 rcases h with h | h
 · rw [h,List.take_zero,List.nil_append];exact m.pb
 · rw [h,List.take_zero,List.append_nil];exact m.pa
theorem E6(a:Array Keyed)(i j:Nat):(a.extract i j).toList=(a.toList.drop i).take (j - i):=by
 rw [Array.toList_extract]
theorem Gy(a:Array Keyed)(i:Nat):(a.extract i a.size).toList=a.toList.drop i:=by
 rw [E6,List.take_of_length_le (by rw [List.length_drop,Array.length_toList];exact zI _)]
end
noncomputable def Qw:Array Keyed->Array Keyed->StateT SortSt Sem (Array Keyed):=sortPriv% PySem.Builtin.mergeLo
section
variable{st:SortSt}{a b:Array Keyed}
structure Same(st st':SortSt):Prop where
 arr:arrOf st'=arrOf st
 kind:kindOf st'=kindOf st
 pend:pendingOf st'=pendingOf st
 fail:failedOf st'=failedOf st
theorem Same.refl(st:SortSt):Same st st:=⟨rfl,rfl,rfl,rfl⟩
structure Two(S:Keyed->Prop)(ρ:Keyed->Nat)(a b:Array Keyed):Prop where
 sa:Srt ρ a.toList
 sb:Srt ρ b.toList
 ma:∀ i,i < a.size->S (gt a i)
 mb:∀ i,i < b.size->S (gt b i)
 ne:∀ i j,i < a.size->j < b.size->ρ (gt a i)≠ρ (gt b j)
 na:1<=a.size
 nb:1<=b.size
 fst:ρ (gt b 0) < ρ (gt a 0)
 lst:ρ (gt b (b.size - 1)) < ρ (gt a (a.size - 1))
noncomputable def B7(ρ:Keyed->Nat)(a b r:Array Keyed):Prop:=r.toList.Perm (a.toList++b.toList)/\Srt ρ r.toList
theorem Ks{i j:Nat}(h:Srt sR a.toList)(hij:i<=j)(hj:j < a.size):sR (gt a i)<=sR (gt a j):=by
 by_cases e:i=j
 · rw [e];exact zI _
 · exact zL (h.at (by exact o61 hij e) hj)
section
variable{out:Array Keyed}{ia ib:Nat}
theorem J4(m:MI sR a.toList b.toList out.toList ia ib)(h:ia=a.size\/ib=b.size):B7 sR a b (out++a.extract ia a.size++b.extract ib b.size):=by
 have:=m.done (by rw [Array.length_toList,Array.length_toList];exact h)
 unfold B7
 rw [Array.toList_append,Array.toList_append,Gy,Gy,List.append_assoc]
 exact this
theorem Qx(m:MI sR a.toList b.toList out.toList ia ib)(T:Two sP sR a b)(hib:ib < b.size)(h:sR (gt b ib) < sR (gt a ia)):MI sR a.toList b.toList (out.push (gt b ib)).toList ia (ib+1):=by
 have:=(m.swap.move 1 (by rw [Array.length_toList];exact o62 hib) fun x hx y hy=>?_).swap
 · rw [Hn hib] at this
   rw [Array.toList_push];exact this
 · rw [Hn hib] at hx
   rw [List.mem_singleton.mp hx]
   refine ex1 (Jh hy) fun i zz=>Ap zz fun h1 h2 e=>?_
   rw [e]
   exact zD h (Ks T.sa h1 h2)
theorem Yh(m:MI sR a.toList b.toList out.toList ia ib)(T:Two sP sR a b)(hia:ia < a.size)(h:sR (gt a ia) < sR (gt b ib)):MI sR a.toList b.toList (out.push (gt a ia)).toList (ia+1) ib:=by
 have:=m.move 1 (by rw [Array.length_toList];exact o62 hia) fun x hx y hy=>?_
 · rw [Hn hia] at this
   rw [Array.toList_push];exact this
 · rw [Hn hia] at hx
   rw [List.mem_singleton.mp hx]
   refine ex1 (Jh hy) fun i zz=>Ap zz fun h1 h2 e=>?_
   rw [e]
   exact zD h (Ks T.sb h1 h2)
theorem Yi{k:Nat}(m:MI sR a.toList b.toList out.toList ia ib)(T:Two sP sR a b)(hk:ia+k<=a.size)(hib:ib < b.size)(h:∀ i,i < k->sR (gt a (ia+i))<=sR (gt b ib)):MI sR a.toList b.toList (out++a.extract ia (ia+k)).toList (ia+k) ib:=by
 have:=m.move k (by rw [Array.length_toList];exact hk) fun x hx y hy=>?_
 · rw [Array.toList_append,E6,Nat.add_sub_cancel_left];exact this
 · refine ex1 (Hm hx) fun i zz=>Ap zz fun h1 h2 e=>?_
   refine ex1 (Jh hy) fun j zz=>Ap zz fun h3 h4 e'=>?_
   rw [e,e']
   have:=h i h1
   have:=T.ne _ _ h2 hib
   have:=Ks T.sb h3 h4
   omega
theorem Qy{k:Nat}(m:MI sR a.toList b.toList out.toList ia ib)(T:Two sP sR a b)(hk:ib+k<=b.size)(hia:ia < a.size)(h:∀ i,i < k->sR (gt b (ib+i)) < sR (gt a ia)):MI sR a.toList b.toList (out++b.extract ib (ib+k)).toList ia (ib+k):=by
 have:=(m.swap.move k (by rw [Array.length_toList];exact hk) fun x hx y hy=>?_).swap
 · rw [Array.toList_append,E6,Nat.add_sub_cancel_left];exact this
 · refine ex1 (Hm hx) fun i zz=>Ap zz fun h1 h2 e=>?_
   refine ex1 (Jh hy) fun j zz=>Ap zz fun h3 h4 e'=>?_
   rw [e,e']
   exact zD (h i h1) (Ks T.sa h3 h4)
theorem Pc(m:MI sR a.toList b.toList out.toList ia ib)(T:Two sP sR a b)(h:ia+1=a.size)(hib:ib<=b.size):B7 sR a b (out++b.extract ib b.size++a.extract ia a.size):=by
 have nb:=T.nb
 have m':=Qy (k:=b.size - ib) m T (by exact o63 hib) (by exact o64 h) fun i hi=>?_
 · rw [show ib+(b.size - ib)=b.size by exact o65 hib] at m'
   have:=J4 m' (.inr rfl)
   unfold B7 at this ⊢
   rw [Array.toList_append,Array.toList_append,Array.toList_append,Gy,Gy,Gy,show b.toList.drop b.size=[] by rw [<- Array.length_toList,List.drop_length],List.append_nil] at this
   rw [Array.toList_append,Array.toList_append,Gy,Gy]
   exact this
 · have:=T.lst
   rw [show a.size - 1=ia by exact o66 h] at this
   exact zA (Ks T.sb (by exact o67 nb hi hib) (by exact o68 nb)) this
end
theorem Uu(C:N1 sM sA sS sK sP sR){β:Type}{Q:β->SortSt->Prop}{left:Bool}{key:Keyed}{arr:Array Keyed}{base n hint:Nat}{f:Option Nat->StateT SortSt Sem β}(hk:kindOf st=sK)(hS:sP key)(hb:base+n<=arr.size)(hx:∀ i,i < base+n->sP (gt arr i))(mono:∀ i j,base<=i->i < j->j < base+n->sR (gt arr i) < sR (gt arr j))(hh:hint < n)
 (h:∀ k,k<=n->(∀ i,i < k->if left=true then sR (gt arr (base+i)) < sR key else sR (gt arr (base+i))<=sR key)->(∀ i,k<=i->i < n->if left=true then sR key<=sR (gt arr (base+i)) else sR key < sR (gt arr (base+i)))->wpS sM sA sE sS (f (some k)) Q st):wpS sM sA sE sS (Mg left key arr base n hint>>=f) Q st :=
 wpS_bind (Yg C hk hS (fun i hi=>⟨by exact o69 hb hi,hx _ (by exact o70 hi)⟩) (fun i j hij hj=>mono _ _ (zM _ _) (by exact o70 hij) (by exact o70 hj)) hh h)
theorem Yj(C:N1 sM sA sS sK sP sR){β:Type}{Q:β->SortSt->Prop}{left:Bool}{key:Keyed}{arr:Array Keyed}{base n hint:Nat}{f:Option Nat->StateT SortSt Sem β}(hk:kindOf st=sK)(hS:sP key)(hb:base+n<=arr.size)(hx:∀ i,i < arr.size->sP (gt arr i))(mono:Srt sR arr.toList)(hh:hint < n)
 (h:∀ k,k<=n->(∀ i,i < k->if left=true then sR (gt arr (base+i)) < sR key else sR (gt arr (base+i))<=sR key)->(∀ i,k<=i->i < n->if left=true then sR key<=sR (gt arr (base+i)) else sR key < sR (gt arr (base+i)))->wpS sM sA sE sS (f (some k)) Q st):wpS sM sA sE sS (Mg left key arr base n hint>>=f) Q st :=
 Uu C hk hS hb (fun i hi=>hx _ (by exact o71 hb hi)) (fun i j _ hij hj=>mono.at hij (by exact o71 hb hj)) hh h
structure Lo(ρ:Keyed->Nat)(a b:Array Keyed)(x:Nat)(out:Array Keyed)(ia ib:Nat):Prop where
 m:MI ρ a.toList b.toList out.toList ia ib
 h1:ia+1 < a.size
 h2:ib < b.size
 h3:x < out.size
noncomputable def Fin(ρ:Keyed->Nat)(a b:Array Keyed)(st:SortSt)(P:Prop)(o:Option (Array Keyed))(st':SortSt):Prop:=Same st st'/\((∃ r,o=some r/\B7 ρ a b r)\/(o=none/\P))
theorem Fin.one{P:Prop}{r:Array Keyed}{st':SortSt}(h:Same st st')(m:B7 sR a b r):Fin sR a b st P (some r) st':=⟨h,.inl ⟨r,rfl,m⟩⟩
theorem Fin.two{P:Prop}{o:Option (Array Keyed)}{st':SortSt}(h:Same st st'/\o=none/\P):Fin sR a b st P o st':=⟨h.1,.inr h.2⟩
theorem Same.setG{st':SortSt}(h:Same st st')(g:Nat):Same st (SortSt.mk' (kindOf st') (arrOf st') (pendingOf st') g (failedOf st')):=⟨h.arr,h.kind,h.pend,h.fail⟩
theorem Aar{x n:Nat}(h:x < n):x+1<=x+max 0 n:=zJ (zC (zA (Nat.zero_le x) h) (Nat.le_max_right 0 n)) x
section
variable{out:Array Keyed}{x y ia ib k:Nat}
theorem Lo.start(T:Two sP sR a b)(n1:1≠b.size)(n2:0+1≠a.size)(m:MI sR a.toList b.toList (#[gt b 0]:Array Keyed).toList 0 1):Lo sR a b 0 #[gt b 0] 0 1:=⟨m,Nat.lt_of_le_of_ne T.na n2,Nat.lt_of_le_of_ne T.nb n1,Nat.zero_lt_one⟩
theorem Lo.ha(L:Lo sR a b x out ia ib):ia < a.size:=Nat.lt_of_succ_lt L.h1
theorem Lo.weak(L:Lo sR a b y out ia ib)(h:x<=y):Lo sR a b x out ia ib:=⟨L.m,L.h1,L.h2,zA h L.h3⟩
theorem Lo.stop(L:Lo sR a b (max 0 (a.size+b.size)) out ia ib):False:=by
 have h:out.size=ia+ib:=L.m.ln
 have:=L.h1
 have:=L.h2
 have:=L.h3
 omega
theorem Lo.pushB(L:Lo sR a b x out ia ib)(T:Two sP sR a b)(h:sR (gt b ib) < sR (gt a ia)):(ib+1=b.size->B7 sR a b (out.push (gt b ib)++a.extract ia a.size++b.extract (ib+1) b.size))/\(ib+1≠b.size->Lo sR a b (x+1) (out.push (gt b ib)) ia (ib+1)) :=
 have m:=Qx L.m T L.h2 h
 ⟨fun e=>J4 m (.inr e),fun e=>⟨m,L.h1,Nat.lt_of_le_of_ne L.h2 e,by rw [Array.size_push];exact Nat.succ_lt_succ L.h3⟩⟩
theorem Lo.pushA(L:Lo sR a b x out ia ib)(T:Two sP sR a b)(h:¬sR (gt b ib) < sR (gt a ia)):(ia+1+1=a.size->B7 sR a b (out.push (gt a ia)++b.extract ib b.size++a.extract (ia+1) a.size))/\(ia+1+1≠a.size->Lo sR a b (x+1) (out.push (gt a ia)) (ia+1) ib) :=
 have m:=Yh L.m T L.ha (Nat.lt_of_le_of_ne (Nat.not_lt.mp h) (T.ne ia ib L.ha L.h2))
 ⟨fun e=>Pc m T e (zL L.h2),fun e=>⟨m,Nat.lt_of_le_of_ne L.h1 e,L.h2,by rw [Array.size_push];exact Nat.succ_lt_succ L.h3⟩⟩
theorem Ho{z:Array Keyed}(h:x < out.size):x < (out++z).size:=by rw [Array.size_append];exact zD h (zM _ _)
theorem Lo.moveA(L:Lo sR a b x out ia ib)(T:Two sP sR a b)(k1:k<=a.size - ia)(h:∀ i,i < k->sR (gt a (ia+i))<=sR (gt b ib)):(ia+k+1=a.size->B7 sR a b (out++a.extract ia (ia+k)++b.extract ib b.size++a.extract (ia+k) a.size)) /\
 (ia+k=a.size->B7 sR a b (out++a.extract ia (ia+k)++a.extract (ia+k) a.size++b.extract ib b.size))/\(ia+k+1≠a.size->ia+k≠a.size->Lo sR a b x (out++a.extract ia (ia+k)) (ia+k) ib/\k < a.size - ia):=by
 have l1:=L.h1
 have m:=Yi L.m T (by exact o72 l1 k1) L.h2 h
 exact ⟨fun e=>Pc m T e (zL L.h2),fun e=>J4 m (.inl e),fun e1 e2=>⟨⟨m,by exact o73 e1 l1 e2 k1,L.h2,Ho L.h3⟩,by exact o74 e1 l1 e2 k1⟩⟩
theorem Lo.moveB(L:Lo sR a b x out ia ib)(T:Two sP sR a b)(k1:k<=b.size - ib)(h:∀ i,i < k->sR (gt b (ib+i)) < sR (gt a ia)):(ib+k=b.size->B7 sR a b (out++b.extract ib (ib+k)++a.extract ia a.size++b.extract (ib+k) b.size)) /\
 (ib+k≠b.size->Lo sR a b x (out++b.extract ib (ib+k)) ia (ib+k)/\k < b.size - ib):=by
 have l1:=L.h2
 have m:=Qy L.m T (by exact o75 l1 k1) L.ha h
 exact ⟨fun e=>J4 m (.inr e),fun e=>⟨⟨m,L.h1,by exact o76 e l1 k1,Ho L.h3⟩,by exact o77 e l1 k1⟩⟩
theorem Uv(C:N1 sM sA sS sK sP sR)(T:Two sP sR a b){Q:Array Keyed->SortSt->Prop}(hk:kindOf st=sK)(q:∀ r st',Same st st'->B7 sR a b r->Q r st'):wpS sM sA sE sS (Qw a b) Q st:=by
 have m0:MI sR a.toList b.toList (#[gt b 0]:Array Keyed).toList 0 1:=Qx (out:=#[]) ⟨T.sa,T.sb,List.Perm.refl _,rfl⟩ T T.nb T.fst
 have kd:∀ {st'},Same st st'->kindOf st'=sK:=fun h=>h.kind.trans hk
 delta Qw
 k_delta "mergeLo"
 refine Lc ?_
 extract_lets -underBinder +onlyGivenNames total done last
 refine Ck T.nb ?_
 extract_lets -underBinder +onlyGivenNames o0 i0 i1
 refine El (fun e=>wpS_pure (q _ _ (Same.refl _) (J4 m0 (.inr e)))) fun n1=>El (fun e=>wpS_pure (q _ _ (Same.refl _) (Pc m0 T e T.nb))) fun n2=>N2 ?_
 have L0:Lo sR a b 0 o0 i0 i1:=Lo.start T n1 n2 m0
 clear_value o0 i0 i1
 extract_lets -underBinder +onlyGivenNames mg
 clear_value mg
 refine Gp (fun x c st'=>Same st st'/\c.1=none/\Lo sR a b x c.2.1 c.2.2.1 c.2.2.2.1) (fun c st'=>Fin sR a b st False c.1 st') ⟨Same.refl _,rfl,L0⟩ ?step (fun c st' h=>h.2.2.stop.elim) ?post
 case post =>
  intro c st' h
  extract_lets -underBinder +onlyGivenNames o
  have h:Fin sR a b st False o st':=h
  clear_value o
  refine h.2.elim (fun ⟨r,e,hm⟩=>?_) fun e=>e.2.elim
  subst e
  exact wpS_pure (q r st' h.1 hm)
 case step =>
  intro x c st' _ hx h R R1 R2
  extract_lets -underBinder +onlyGivenNames s1 out s2 ia s3 ib mg ac
  have L:Lo sR a b x out ia ib:=h.2.2
  clear_value out ia ib mg ac
  refine Gp (fun y c st'=>Same st st'/\c.1=none/\Lo sR a b (x+y) c.2.1 c.2.2.1 c.2.2.2.1) (fun c st'=>Fin sR a b st (Lo sR a b (x+1) c.2.1 c.2.2.1 c.2.2.2.1) c.1 st') ⟨h.1,rfl,L⟩ ?step1 (fun c st' h=>.two ⟨h.1,h.2.1,h.2.2.weak (Aar hx)⟩) ?post1
  case step1 =>
   intro y c st' _ hy h R R1 R2
   extract_lets -underBinder +onlyGivenNames s1 out s2 ia s3 ib s4 ac bc
   have L:Lo sR a b (x+y) out ia ib:=h.2.2
   clear_value out ia ib ac bc
   have wk:∀ {out ia ib},Lo sR a b (x+y+1) out ia ib->Lo sR a b (x+1) out ia ib:=fun L=>L.weak (zJ (Nat.le_add_left 1 y) x)
   refine Ck L.h2 (Ck L.ha (Akf C (kd h.1) (T.mb _ L.h2) (T.ma _ L.ha) (Ld (fun e=>Ck L.h2 ?_) fun e=>Ck L.ha ?_)))
   · have g:=L.pushB T (of_decide_eq_true e)
     exact El (fun e=>wpS_pure (R2 _ _ (.one h.1 (g.1 e)))) fun e=>Dh (fun _=>wpS_pure (R2 _ _ (.two ⟨h.1,rfl,wk (g.2 e)⟩))) fun _=>wpS_pure (R1 _ _ ⟨h.1,rfl,g.2 e⟩)
   · have g:=L.pushA T (of_decide_eq_false e)
     exact El (fun e=>wpS_pure (R2 _ _ (.one h.1 (g.1 e)))) fun e=>Dh (fun _=>wpS_pure (R2 _ _ (.two ⟨h.1,rfl,wk (g.2 e)⟩))) fun _=>wpS_pure (R1 _ _ ⟨h.1,rfl,g.2 e⟩)
  case post1 =>
   intro c st' h
   extract_lets -underBinder +onlyGivenNames o s1 out s2 ia s3 ib s4 ac bc
   have h:Fin sR a b st (Lo sR a b (x+1) out ia ib) o st':=h
   clear_value o out ia ib ac bc
   refine h.2.elim (fun ⟨r,e,hm⟩=>?_) fun ⟨e,L⟩=>?_
   · subst e
     exact wpS_pure (R2 _ _ (.one h.1 hm))
   subst e
   refine Lc ?_
   extract_lets -underBinder +onlyGivenNames mg
   clear_value mg
   refine Gp (fun y c st'=>Same st st'/\c.1=none/\Lo sR a b (x+1) c.2.1 c.2.2.1 c.2.2.2.1) (fun c st'=>Fin sR a b st (Lo sR a b (x+1) c.2.1 c.2.2.1 c.2.2.2.1) c.1 st') ⟨h.1,rfl,L⟩ ?step2 (fun c st' h=>.two h) ?post2
   case post2 =>
    intro c st' h
    extract_lets -underBinder +onlyGivenNames o s1 out s2 ia s3 ib s4 mg
    have h:Fin sR a b st (Lo sR a b (x+1) out ia ib) o st':=h
    clear_value o out ia ib mg
    refine h.2.elim (fun ⟨r,e,hm⟩=>?_) fun ⟨e,L⟩=>?_
    · subst e
      exact wpS_pure (R2 _ _ (.one h.1 hm))
    subst e
    exact Qv (wpS_pure (R1 _ _ ⟨h.1.setG _,rfl,L⟩))
   case step2 =>
    intro y c st' _ hy h R R1 R2
    extract_lets -underBinder +onlyGivenNames s1 out s2 ia s3 ib s4 mg s5 ac bc jp
    have L:Lo sR a b (x+1) out ia ib:=h.2.2
    clear_value out ia ib mg ac bc
    suffices hj:∀ g,wpS sM sA sE sS (jp () g) R st' from Dh (fun _=>hj _) fun _=>hj _
    intro g
    have sm':=h.1.setG g
    refine Qv (Ck L.h2 (Yj C (kd sm') (T.mb _ L.h2) (zG (Nat.add_sub_cancel' (zL L.ha))) T.ma T.sa (Nat.sub_pos_of_lt L.ha) fun k k1 k2 k3=>?_))
    dsimp -zeta only
    extract_lets -underBinder +onlyGivenNames ac jp
    have g1:=L.moveA T k1 k2
    suffices hj:∀ out ia,Lo sR a b (x+1) out ia ib->sR (gt b ib) < sR (gt a ia)->wpS sM sA sE sS (jp () out ia) R (SortSt.mk' (kindOf st') (arrOf st') (pendingOf st') g (failedOf st')) from
     Dh (fun _=>El (fun e=>wpS_pure (R2 _ _ (.one sm' (g1.1 e)))) fun e=>El (fun e=>wpS_pure (R2 _ _ (.one sm' (g1.2.1 e)))) fun e'=>hj _ _ (g1.2.2 e e').1 (k3 k (zI _) (g1.2.2 e e').2)) fun z=>hj _ _ L (k3 0 (Nat.le_of_not_lt z) (Nat.sub_pos_of_lt L.ha))
    intro out ia L kb
    refine Ck L.h2 ?_
    have g2:=L.pushB T kb
    extract_lets -underBinder +onlyGivenNames out ib
    refine El (fun e=>wpS_pure (R2 _ _ (.one sm' (g2.1 e)))) fun e=>?_
    have L:Lo sR a b (x+1+1) out ia ib:=g2.2 e
    clear_value out ib
    refine Ck L.ha (Yj C (kd sm') (T.ma _ L.ha) (zG (Nat.add_sub_cancel' (zL L.h2))) T.mb T.sb (Nat.sub_pos_of_lt L.h2) fun n n1 n2 n3=>?_)
    dsimp -zeta only
    extract_lets -underBinder +onlyGivenNames bc jp
    have g1:=L.moveB T n1 n2
    suffices hj:∀ out ib,Lo sR a b (x+1+1) out ia ib->sR (gt a ia)<=sR (gt b ib)->wpS sM sA sE sS (jp () out ib) R (SortSt.mk' (kindOf st') (arrOf st') (pendingOf st') g (failedOf st')) from
     Dh (fun _=>El (fun e=>wpS_pure (R2 _ _ (.one sm' (g1.1 e)))) fun e=>hj _ _ (g1.2 e).1 (n3 n (zI _) (g1.2 e).2)) fun z=>hj _ _ L (n3 0 (Nat.le_of_not_lt z) (Nat.sub_pos_of_lt L.h2))
    intro out ib L ka
    refine Ck L.ha ?_
    have g2:=L.pushA T (Nat.not_lt.mpr ka)
    extract_lets -underBinder +onlyGivenNames out ia
    have lo:ia+1≠a.size->Lo sR a b (x+1) out ia ib:=fun e=>(g2.2 e).weak (zM (x+1) 2)
    exact El (fun e=>wpS_pure (R2 _ _ (.one sm' (g2.1 e)))) fun e=>Dh (fun _=>wpS_pure (R2 _ _ (.two ⟨sm',rfl,lo e⟩))) fun _=>wpS_pure (R1 _ _ ⟨sm',rfl,lo e⟩)
end
end
noncomputable def Qz:Array Keyed->Array Keyed->StateT SortSt Sem (Array Keyed):=sortPriv% PySem.Builtin.mergeHi
section
variable{st:SortSt}{a b:Array Keyed}
section
variable{out:Array Keyed}{na nb n:Nat}
theorem Mh(h:n < a.size):(a.toList.take (n+1)).drop n=[gt a n]:=by
 rw [List.drop_take,Nat.add_sub_cancel_left,Hn h]
theorem Uw{x:Keyed}(h:x∈(a.toList.take na).drop n):∃ i,n<=i/\i < na/\i < a.size/\x=gt a i:=by
 rw [List.drop_take] at h
 refine ex1 (Hm h) fun i zz=>Ap zz fun h1 h2 e=>?_
 exact ⟨n+i,by exact o54,by exact o78 h1,h2,e⟩
theorem Q0(a:Array Keyed)(n:Nat):(a.extract 0 n).toList=a.toList.take n:=by
 rw [E6,List.drop_zero,Nat.sub_zero]
theorem Mi(m:MH sR a.toList b.toList out.toList.reverse na nb)(h:na=0\/nb=0):B7 sR a b (a.extract 0 na++b.extract 0 nb++out.reverse):=by
 unfold B7
 rw [Array.toList_append,Array.toList_append,Q0,Q0,Array.toList_reverse]
 exact m.done h
theorem Q1(m:MH sR a.toList b.toList out.toList.reverse (na+1) nb)(T:Two sP sR a b)(hb:1<=nb)(h:sR (gt b (nb - 1)) < sR (gt a na)):MH sR a.toList b.toList (out.push (gt a na)).toList.reverse na nb:=by
 have la:=m.la
 have lb:=m.lb
 rw [Array.length_toList] at la lb
 have:=m.move na (by exact o79) fun x hx y hy=>?_
 · rw [Mh (by exact o80 la)] at this
   rw [Array.toList_push,List.reverse_append];exact this
 · rw [Mh (by exact o80 la)] at hy
   rw [List.mem_singleton.mp hy]
   refine ex1 (Ji hx) fun i zz=>Ap zz fun h1 h2 e=>?_
   rw [e]
   exact zA (Ks T.sb (by exact o81 hb h1) (by exact o82 hb lb)) h
theorem Yk(m:MH sR a.toList b.toList out.toList.reverse na (nb+1))(T:Two sP sR a b)(ha:1<=na)(h:sR (gt a (na - 1)) < sR (gt b nb)):MH sR a.toList b.toList (out.push (gt b nb)).toList.reverse na nb:=by
 have la:=m.la
 have lb:=m.lb
 rw [Array.length_toList] at la lb
 have:=(m.swap.move nb (by exact o79) fun x hx y hy=>?_).swap
 · rw [Mh (by exact o80 lb)] at this
   rw [Array.toList_push,List.reverse_append];exact this
 · rw [Mh (by exact o80 lb)] at hy
   rw [List.mem_singleton.mp hy]
   refine ex1 (Ji hx) fun i zz=>Ap zz fun h1 h2 e=>?_
   rw [e]
   exact zA (Ks T.sa (by exact o81 ha h1) (by exact o82 ha la)) h
theorem Pd(out a:Array Keyed)(n na:Nat):(out++(a.extract n na).reverse).toList.reverse=(a.toList.take na).drop n++out.toList.reverse:=by
 rw [Array.toList_append,List.reverse_append,Array.toList_reverse,List.reverse_reverse,E6,List.drop_take]
theorem Q2(m:MH sR a.toList b.toList out.toList.reverse na nb)(T:Two sP sR a b)(hn:n<=na)(hb:1<=nb)(h:∀ i,n<=i->i < na->sR (gt b (nb - 1)) < sR (gt a i)):MH sR a.toList b.toList (out++(a.extract n na).reverse).toList.reverse n nb:=by
 have lb:=m.lb
 rw [Array.length_toList] at lb
 rw [Pd]
 refine m.move n hn fun x hx y hy=>?_
 refine ex1 (Ji hx) fun i zz=>Ap zz fun h1 h2 e=>?_
 refine ex1 (Uw hy) fun j zz=>Cl zz fun h3 h4 h5 e'=>?_
 rw [e,e']
 exact zA (Ks T.sb (by exact o81 hb h1) (by exact o82 hb lb)) (h j h3 h4)
theorem Yl(m:MH sR a.toList b.toList out.toList.reverse na nb)(T:Two sP sR a b)(hn:n<=nb)(ha:1<=na)(h:∀ i,n<=i->i < nb->sR (gt a (na - 1))<=sR (gt b i)):MH sR a.toList b.toList (out++(b.extract n nb).reverse).toList.reverse na n:=by
 have la:=m.la
 rw [Array.length_toList] at la
 rw [Pd]
 refine (m.swap.move n hn fun x hx y hy=>?_).swap
 refine ex1 (Ji hx) fun i zz=>Ap zz fun h1 h2 e=>?_
 refine ex1 (Uw hy) fun j zz=>Cl zz fun h3 h4 h5 e'=>?_
 rw [e,e']
 have:=h j h3 h4
 have:=T.ne (na - 1) j (by exact o82 ha la) h5
 have:=Ks T.sa (i:=i) (j:=na - 1) (by exact o81 ha h1) (by exact o82 ha la)
 omega
theorem Mj(m:MH sR a.toList b.toList out.toList.reverse na nb)(T:Two sP sR a b)(h:nb=1):B7 sR a b (b.extract 0 nb++a.extract 0 na++out.reverse):=by
 subst h
 have la:=m.la
 rw [Array.length_toList] at la
 have m':=Q2 (n:=0) m T (by exact o83) (zI _) fun i _ hi=>zD T.fst (Ks T.sa (Nat.zero_le _) (by exact o84 hi la))
 have:=m'.done (.inl rfl)
 rw [Pd,List.take_zero,List.nil_append,List.drop_zero] at this
 unfold B7
 rw [Array.toList_append,Array.toList_append,Q0,Q0,Array.toList_reverse,List.append_assoc]
 exact this
structure Hi(ρ:Keyed->Nat)(a b:Array Keyed)(x na nb:Nat)(out:Array Keyed):Prop where
 m:MH ρ a.toList b.toList out.toList.reverse na nb
 h1:1<=na
 h2:2<=nb
 h3:x < out.size
variable{x y k:Nat}
theorem Hi.la(L:Hi sR a b x na nb out):na - 1 < a.size:=zD (Nat.sub_lt L.h1 Nat.zero_lt_one) L.m.la
theorem Hi.lb(L:Hi sR a b x na nb out):nb - 1 < b.size:=zD (Nat.sub_lt (Nat.lt_of_succ_lt L.h2) Nat.zero_lt_one) L.m.lb
theorem Hi.ga(L:Hi sR a b x na nb out):0+na<=a.size:=by rw [Nat.zero_add];exact L.m.la
theorem Hi.gb(L:Hi sR a b x na nb out):0+nb<=b.size:=by rw [Nat.zero_add];exact L.m.lb
theorem Hi.pa(L:Hi sR a b x na nb out):na - 1 < na:=Nat.sub_lt L.h1 Nat.zero_lt_one
theorem Hi.pb(L:Hi sR a b x na nb out):nb - 1 < nb:=Nat.sub_lt (Nat.lt_of_succ_lt L.h2) Nat.zero_lt_one
theorem Hi.weak(L:Hi sR a b y na nb out)(h:x<=y):Hi sR a b x na nb out:=⟨L.m,L.h1,L.h2,zA h L.h3⟩
theorem Hi.stop(L:Hi sR a b (max 0 (a.size+b.size)) na nb out):False:=by
 have h:=L.m.ln
 have:=L.h1
 have:=L.h3
 rw [List.length_reverse] at h
 have h:out.size+na+nb=a.size+b.size:=h
 omega
theorem Hi.pushA(L:Hi sR a b x na nb out)(T:Two sP sR a b)(h:sR (gt b (nb - 1)) < sR (gt a (na - 1))):(na - 1=0->B7 sR a b (a.extract 0 (na - 1)++b.extract 0 nb++(out.push (gt a (na - 1))).reverse))/\(na - 1≠0->Hi sR a b (x+1) (na - 1) nb (out.push (gt a (na - 1)))) :=
 have m:=Q1 (na:=na - 1) (by rw [Nat.sub_add_cancel L.h1];exact L.m) T (Nat.le_of_succ_le L.h2) h
 ⟨fun e=>Mi m (.inl e),fun e=>⟨m,Nat.pos_of_ne_zero e,L.h2,by rw [Array.size_push];exact Nat.succ_lt_succ L.h3⟩⟩
theorem Hi.pushB(L:Hi sR a b x na nb out)(T:Two sP sR a b)(h:¬sR (gt b (nb - 1)) < sR (gt a (na - 1))):(nb - 1=1->B7 sR a b (b.extract 0 (nb - 1)++a.extract 0 na++(out.push (gt b (nb - 1))).reverse))/\(nb - 1≠1->Hi sR a b (x+1) na (nb - 1) (out.push (gt b (nb - 1)))) :=
 have m:=Yk (nb:=nb - 1) (by rw [Nat.sub_add_cancel (Nat.le_of_succ_le L.h2)];exact L.m) T L.h1 (Nat.lt_of_le_of_ne (Nat.not_lt.mp h) (T.ne _ _ L.la L.lb))
 ⟨fun e=>Mj m T e,fun e=>⟨m,L.h1,Nat.lt_of_le_of_ne (Nat.le_sub_of_add_le L.h2) e.symm,by rw [Array.size_push];exact Nat.succ_lt_succ L.h3⟩⟩
theorem Hi.moveA(L:Hi sR a b x na nb out)(T:Two sP sR a b)(hk:k<=na)(h:∀ i,k<=i->i < na->sR (gt b (nb - 1)) < sR (gt a (0+i))):(k=0->B7 sR a b (a.extract 0 k++b.extract 0 nb++(out++(a.extract k na).reverse).reverse))/\(k≠0->Hi sR a b x k nb (out++(a.extract k na).reverse)) :=
 have m:=Q2 L.m T hk (Nat.le_of_succ_le L.h2) fun i p q=>Nat.zero_add i▸h i p q
 ⟨fun e=>Mi m (.inl e),fun e=>⟨m,Nat.pos_of_ne_zero e,L.h2,Ho L.h3⟩⟩
theorem Hi.moveB(L:Hi sR a b x na nb out)(T:Two sP sR a b)(hk:k<=nb)(h:∀ i,k<=i->i < nb->sR (gt a (na - 1))<=sR (gt b (0+i))):(k=1->B7 sR a b (b.extract 0 k++a.extract 0 na++(out++(b.extract k nb).reverse).reverse)) /\
 (k=0->B7 sR a b (a.extract 0 na++b.extract 0 k++(out++(b.extract k nb).reverse).reverse))/\(k≠1->k≠0->Hi sR a b x na k (out++(b.extract k nb).reverse)) :=
 have m:=Yl L.m T hk L.h1 fun i p q=>Nat.zero_add i▸h i p q
 ⟨fun e=>Mj m T e,fun e=>Mi m (.inr e),fun e1 e2=>⟨m,L.h1,Nat.lt_of_le_of_ne (Nat.pos_of_ne_zero e2) e1.symm,Ho L.h3⟩⟩
theorem Q3{n:Nat}(h:n≠0):n - 1 < n:=Nat.sub_lt (Nat.pos_of_ne_zero h) Nat.zero_lt_one
theorem Ux{n:Nat}(hk:k<=n)(h:¬n - k > 0)(h1:n - 1 < n):n - 1 < k:=by exact o85 h1 h
theorem Uy(C:N1 sM sA sS sK sP sR)(T:Two sP sR a b){Q:Array Keyed->SortSt->Prop}(hk:kindOf st=sK)(q:∀ r st',Same st st'->B7 sR a b r->Q r st'):wpS sM sA sE sS (Qz a b) Q st:=by
 have na0:=T.na
 have m0:MH sR a.toList b.toList (#[gt a (a.size - 1)]:Array Keyed).toList.reverse (a.size - 1) b.size:=by
  refine Q1 (out:=#[]) ?_ T T.nb T.lst
  have e1:a.toList.take (a.size - 1+1)=a.toList:=by rw [Nat.sub_add_cancel na0,<- Array.length_toList,List.take_length]
  have e2:b.toList.take b.size=b.toList:=by rw [<- Array.length_toList,List.take_length]
  refine ⟨?_,?_,?_,zG (Nat.sub_add_cancel na0),zI _,by show 0+(a.size - 1+1)+b.size=a.size+b.size;rw [Nat.sub_add_cancel na0,Nat.zero_add]⟩
  · rw [e1];show Srt sR (_++[]);rw [List.append_nil];exact T.sa
  · rw [e2];show Srt sR (_++[]);rw [List.append_nil];exact T.sb
  · rw [e1,e2];show (_++[]).Perm _;rw [List.append_nil]
 have kd:∀ {st'},Same st st'->kindOf st'=sK:=fun h=>h.kind.trans hk
 delta Qz
 k_delta "mergeHi"
 refine Lc ?_
 extract_lets -underBinder +onlyGivenNames total done last i0 i1
 refine Ck (Nat.sub_lt na0 Nat.zero_lt_one) ?_
 extract_lets -underBinder +onlyGivenNames o0
 refine El (fun e=>wpS_pure (q _ _ (Same.refl _) (Mi m0 (.inl e)))) fun n1=>El (fun e=>wpS_pure (q _ _ (Same.refl _) (Mj m0 T e))) fun n2=>N2 ?_
 have L0:Hi sR a b 0 i0 i1 o0:=⟨m0,Nat.pos_of_ne_zero n1,Nat.lt_of_le_of_ne T.nb (Ne.symm n2),Nat.zero_lt_one⟩
 clear_value o0 i0 i1
 extract_lets -underBinder +onlyGivenNames mg
 clear_value mg
 refine Gp (fun x c st'=>Same st st'/\c.1=none/\Hi sR a b x c.2.1 c.2.2.1 c.2.2.2.1) (fun c st'=>Fin sR a b st False c.1 st') ⟨Same.refl _,rfl,L0⟩ ?step (fun c st' h=>h.2.2.stop.elim) ?post
 case post =>
  intro c st' h
  extract_lets -underBinder +onlyGivenNames o
  have h:Fin sR a b st False o st':=h
  clear_value o
  refine h.2.elim (fun ⟨r,e,hm⟩=>?_) fun e=>e.2.elim
  subst e
  exact wpS_pure (q r st' h.1 hm)
 case step =>
  intro x c st' _ hx h R R1 R2
  extract_lets -underBinder +onlyGivenNames s1 na s2 nb s3 out mg ac
  have L:Hi sR a b x na nb out:=h.2.2
  clear_value out na nb mg ac
  refine Gp (fun y c st'=>Same st st'/\c.1=none/\Hi sR a b (x+y) c.2.1 c.2.2.1 c.2.2.2.1) (fun c st'=>Fin sR a b st (Hi sR a b (x+1) c.2.1 c.2.2.1 c.2.2.2.1) c.1 st') ⟨h.1,rfl,L⟩ ?step1 (fun c st' h=>.two ⟨h.1,h.2.1,h.2.2.weak (Aar hx)⟩) ?post1
  case step1 =>
   intro y c st' _ hy h R R1 R2
   extract_lets -underBinder +onlyGivenNames s1 na s2 nb s3 out s4 ac bc
   have L:Hi sR a b (x+y) na nb out:=h.2.2
   clear_value out na nb ac bc
   have wk:∀ {na nb out},Hi sR a b (x+y+1) na nb out->Hi sR a b (x+1) na nb out:=fun L=>L.weak (zJ (Nat.le_add_left 1 y) x)
   refine Ck L.lb (Ck L.la (Akf C (kd h.1) (T.mb _ L.lb) (T.ma _ L.la) (Ld (fun e=>Ck L.la ?_) fun e=>Ck L.lb ?_)))
   · have g:=L.pushA T (of_decide_eq_true e)
     exact El (fun e=>wpS_pure (R2 _ _ (.one h.1 (g.1 e)))) fun e=>Dh (fun _=>wpS_pure (R2 _ _ (.two ⟨h.1,rfl,wk (g.2 e)⟩))) fun _=>wpS_pure (R1 _ _ ⟨h.1,rfl,g.2 e⟩)
   · have g:=L.pushB T (of_decide_eq_false e)
     exact El (fun e=>wpS_pure (R2 _ _ (.one h.1 (g.1 e)))) fun e=>Dh (fun _=>wpS_pure (R2 _ _ (.two ⟨h.1,rfl,wk (g.2 e)⟩))) fun _=>wpS_pure (R1 _ _ ⟨h.1,rfl,g.2 e⟩)
  case post1 =>
   intro c st' h
   extract_lets -underBinder +onlyGivenNames o s1 na s2 nb s3 out s4 ac bc
   have h:Fin sR a b st (Hi sR a b (x+1) na nb out) o st':=h
   clear_value o out na nb ac bc
   refine h.2.elim (fun ⟨r,e,hm⟩=>?_) fun ⟨e,L⟩=>?_
   · subst e
     exact wpS_pure (R2 _ _ (.one h.1 hm))
   subst e
   refine Lc ?_
   extract_lets -underBinder +onlyGivenNames mg
   clear_value mg
   refine Gp (fun y c st'=>Same st st'/\c.1=none/\Hi sR a b (x+1) c.2.1 c.2.2.1 c.2.2.2.1) (fun c st'=>Fin sR a b st (Hi sR a b (x+1) c.2.1 c.2.2.1 c.2.2.2.1) c.1 st') ⟨h.1,rfl,L⟩ ?step2 (fun c st' h=>.two h) ?post2
   case post2 =>
    intro c st' h
    extract_lets -underBinder +onlyGivenNames o s1 na s2 nb s3 out s4 mg
    have h:Fin sR a b st (Hi sR a b (x+1) na nb out) o st':=h
    clear_value o out na nb mg
    refine h.2.elim (fun ⟨r,e,hm⟩=>?_) fun ⟨e,L⟩=>?_
    · subst e
      exact wpS_pure (R2 _ _ (.one h.1 hm))
    subst e
    exact Qv (wpS_pure (R1 _ _ ⟨h.1.setG _,rfl,L⟩))
   case step2 =>
    intro y c st' _ hy h R R1 R2
    extract_lets -underBinder +onlyGivenNames s1 na s2 nb s3 out s4 mg s5 ac bc jp
    have L:Hi sR a b (x+1) na nb out:=h.2.2
    clear_value out na nb mg ac bc
    suffices hj:∀ g,wpS sM sA sE sS (jp () g) R st' from Dh (fun _=>hj _) fun _=>hj _
    intro g
    have sm':=h.1.setG g
    refine Qv (Ck L.lb (Yj C (kd sm') (T.mb _ L.lb) L.ga T.ma T.sa L.pa fun k k1 k2 k3=>?_))
    dsimp -zeta only
    extract_lets -underBinder +onlyGivenNames kk ac jp
    have g1:=L.moveA T k1 k3
    suffices hj:∀ na out,Hi sR a b (x+1) na nb out->sR (gt a (0+(na - 1)))<=sR (gt b (nb - 1))->wpS sM sA sE sS (jp () na out) R (SortSt.mk' (kindOf st') (arrOf st') (pendingOf st') g (failedOf st')) from
     Dh (fun _=>El (fun e=>wpS_pure (R2 _ _ (.one sm' (g1.1 e)))) fun e=>hj _ _ (g1.2 e) (k2 _ (Q3 e))) fun z=>hj _ _ L (k2 _ (Ux k1 z L.pa))
    intro na out L kb
    rw [Nat.zero_add] at kb
    refine Ck L.lb ?_
    have g2:=L.pushB T (Nat.not_lt.mpr kb)
    extract_lets -underBinder +onlyGivenNames out
    refine El (fun e=>wpS_pure (R2 _ _ (.one sm' (g2.1 e)))) fun e=>?_
    have L:Hi sR a b (x+1+1) na (nb - 1) out:=g2.2 e
    clear_value out
    clear g2 kb e
    generalize nb - 1=nb at L ⊢
    refine Ck L.la (Yj C (kd sm') (T.ma _ L.la) L.gb T.mb T.sb L.pb fun n n1 n2 n3=>?_)
    dsimp -zeta only
    extract_lets -underBinder +onlyGivenNames kk bc jp
    have g1:=L.moveB T n1 n3
    suffices hj:∀ nb out,Hi sR a b (x+1+1) na nb out->sR (gt b (0+(nb - 1))) < sR (gt a (na - 1))->wpS sM sA sE sS (jp () nb out) R (SortSt.mk' (kindOf st') (arrOf st') (pendingOf st') g (failedOf st')) from
     Dh (fun _=>El (fun e=>wpS_pure (R2 _ _ (.one sm' (g1.1 e)))) fun e=>El (fun e=>wpS_pure (R2 _ _ (.one sm' (g1.2.1 e)))) fun e'=>hj _ _ (g1.2.2 e e') (n2 _ (Q3 e'))) fun z=>hj _ _ L (n2 _ (Ux n1 z L.pb))
    intro nb out L ka
    rw [Nat.zero_add] at ka
    refine Ck L.la ?_
    have g2:=L.pushA T ka
    extract_lets -underBinder +onlyGivenNames out
    have lo:na - 1≠0->Hi sR a b (x+1) (na - 1) nb out:=fun e=>(g2.2 e).weak (zM (x+1) 2)
    exact El (fun e=>wpS_pure (R2 _ _ (.one sm' (g2.1 e)))) fun e=>Dh (fun _=>wpS_pure (R2 _ _ (.two ⟨sm',rfl,lo e⟩))) fun _=>wpS_pure (R1 _ _ ⟨sm',rfl,lo e⟩)
end
end
section
variable{st:SortSt}{lo n nrem:Nat}
theorem Bg.size{κ:SortKind}{a₀:Array Keyed}(h:Bg κ a₀ st):(arrOf st).size=a₀.size:=h.perm.length_eq
theorem Bg.mem(h:Bg sK sZ st){i:Nat}(hi:i < sZ.size):gt (arrOf st) i∈sZ.toList:=h.perm.mem_iff.mp (zF (Do (by rw [h.size];exact hi)))
theorem Bg.ne(h:Bg sK sZ st)(inj:(sZ.toList.map sR).Nodup){i j:Nat}(hij:i < j)(hj:j < sZ.size):sR (gt (arrOf st) i)≠sR (gt (arrOf st) j):=by
 have nd:((arrOf st).toList.map sR).Nodup:=(h.perm.map sR).nodup_iff.mpr inj
 have hs:=h.size
 have e1:((arrOf st).toList.map sR)[i]?=some (sR (gt (arrOf st) i)):=by rw [List.getElem?_map,Do (by exact o86 hij hj hs)];rfl
 have e2:((arrOf st).toList.map sR)[j]?=some (sR (gt (arrOf st) j)):=by rw [List.getElem?_map,Do (by exact o87 hj hs)];rfl
 have l1:=(List.getElem?_eq_some_iff.mp e1).1
 have l2:=(List.getElem?_eq_some_iff.mp e2).1
 rw [List.getElem?_eq_getElem l1] at e1
 rw [List.getElem?_eq_getElem l2] at e2
 intro q
 rw [<- Option.some.inj e1,<- Option.some.inj e2] at q
 exact List.pairwise_iff_getElem.mp nd i j l1 l2 hij q
structure BKeep(lo:Nat)(arr arr':Array Keyed):Prop where
 size:arr'.size=arr.size
 low:∀ p,p < lo->gt arr' p=gt arr p
theorem BKeep.refl(lo:Nat)(arr:Array Keyed):BKeep lo arr arr:=⟨rfl,fun _ _=>rfl⟩
theorem BKeep.trans{a b c:Array Keyed}(x:BKeep lo a b)(y:BKeep lo b c):BKeep lo a c:=⟨y.size.trans x.size,fun p hp=>(y.low p hp).trans (x.low p hp)⟩
theorem Pe{a:Array Keyed}{i:Nat}{o:Option Keyed}(h:a[i]?=o):gt a i=o.getD (Value.none,Value.none):=by unfold gt;rw [Array.getD_eq_getD_getElem?,h]
theorem Mk(a:Array Keyed)(i:Nat):(a[i]?).getD (Value.none,Value.none)=gt a i:=(Pe rfl).symm
theorem Afq(C:N1 sM sA sS sK sP sR)(hB:Bg sK sZ st){i j:Nat}{Q:Option Bool->SortSt->Prop}(hi:i < sZ.size)(hj:j < sZ.size)(h:Q (some (decide (sR (gt (arrOf st) i) < sR (gt (arrOf st) j)))) st):wpS sM sA sE sS (ltAt' i j) Q st:=by
 rw [ltAt'_eq]
 refine wpS_bind (wpS_get ?_)
 have hs:=hB.size
 exact wpS_bind (Us (Qu (show i < (arrOf st).size by exact o87 hi hs)) (wpS_bind (Us (Qu (show j < (arrOf st).size by exact o87 hj hs)) (Ag1 C hB.kind (hB.mem hi) (hB.mem hj) h))))
theorem Atp{β:Type}{m1 m2:StateT SortSt Sem β}{Q:β->SortSt->Prop}(h:wpS sM sA sE sS m1 Q st):wpS sM sA sE sS (if true=true then m1 else m2) Q st:=h
theorem Atq{β:Type}{m1 m2:StateT SortSt Sem β}{Q:β->SortSt->Prop}(h:wpS sM sA sE sS m2 Q st):wpS sM sA sE sS (if false=true then m1 else m2) Q st:=h
theorem Le(C:N1 sM sA sS sK sP sR)(hB:Bg sK sZ st){i j:Nat}{β:Type}{f:Option Bool->StateT SortSt Sem β}{Q:β->SortSt->Prop}(hi:i < sZ.size)(hj:j < sZ.size)(h1:sR (gt (arrOf st) i) < sR (gt (arrOf st) j)->wpS sM sA sE sS (f (some true)) Q st)(h2:¬sR (gt (arrOf st) i) < sR (gt (arrOf st) j)->wpS sM sA sE sS (f (some false)) Q st):wpS sM sA sE sS (ltAt' i j>>=f) Q st:=by
 refine wpS_bind (Afq C hB hi hj ?_)
 by_cases c:sR (gt (arrOf st) i) < sR (gt (arrOf st) j)
 · rw [decide_eq_true c];exact h1 c
 · rw [decide_eq_false c];exact h2 c
theorem Asc.snoc{arr:Array Keyed}(h:Asc sR arr lo n)(h1:1<=n)(l:sR (gt arr (lo+n - 1)) < sR (gt arr (lo+n))):Asc sR arr lo (n+1):=by
 intro p q hp hpq hq
 by_cases e:q=lo+n
 · rw [e]
   by_cases e':p=lo+n - 1
   · rw [e'];exact l
   · exact Nat.lt_trans (h p (lo+n - 1) hp (by exact o88 h1 hpq e e') (by exact o89 hpq e)) l
 · exact h p q hp hpq (by exact o90 hq e)
theorem Afr{β:Type}{Q:β->SortSt->Prop}{a:Nat}{f:Nat->Option (Option Nat) × Nat->StateT SortSt Sem (ForInStep (Option (Option Nat) × Nat))}{g:Option (Option Nat) × Nat->StateT SortSt Sem β}(ne:∀ n,1<=n->n < nrem->sR (gt (arrOf st) (lo+n))≠sR (gt (arrOf st) (lo+n - 1)))(h1:1<=a)(h2:a<=nrem)(asc:Asc sR (arrOf st) lo a)
 (hf:∀ k n (R:ForInStep (Option (Option Nat) × Nat)->SortSt->Prop),1<=n->n < nrem->(sR (gt (arrOf st) (lo+n)) < sR (gt (arrOf st) (lo+n - 1))->R (.done (none,n)) st)->(¬sR (gt (arrOf st) (lo+n)) < sR (gt (arrOf st) (lo+n - 1))->R (.yield (none,n+1)) st)->wpS sM sA sE sS (f k (none,n)) R st)
 (h:∀ c,c.1=none->a<=c.2->c.2<=nrem->Asc sR (arrOf st) lo c.2->(c.2=nrem\/sR (gt (arrOf st) (lo+c.2)) < sR (gt (arrOf st) (lo+c.2 - 1)))->wpS sM sA sE sS (g c) Q st):wpS sM sA sE sS (forIn [a:nrem] (none,a) f>>=g) Q st:=by
 refine Gp (fun x c st'=>st=st'/\c=(none,x)/\Asc sR (arrOf st) lo x) (fun c st'=>st=st'/\∃ n,c=(none,n)/\a<=n/\n<=nrem/\Asc sR (arrOf st) lo n/\(n=nrem\/sR (gt (arrOf st) (lo+n)) < sR (gt (arrOf st) (lo+n - 1)))) ⟨rfl,rfl,asc⟩ ?_ ?_ ?_
 · rintro x _ _ hx hx' ⟨rfl,rfl,h⟩ R R1 R2
   exact hf x x _ (by exact o91 h1 hx) hx' (fun l=>R2 _ _ ⟨rfl,x,rfl,hx,by exact o92 hx',h,.inr l⟩) fun l=>R1 _ _ ⟨rfl,rfl,h.snoc (by exact o91 h1 hx) (by have:=ne x (by exact o91 h1 hx) hx';exact o93 this l)⟩
 · rintro _ _ ⟨rfl,rfl,h⟩
   rw [Nat.max_eq_right h2] at h ⊢
   exact ⟨rfl,nrem,rfl,h2,zI _,h,.inl rfl⟩
 · intro _ _ zz
   refine Ac zz fun zr0 zz=>ex1 zz fun n zz=>Ep zz fun zr2 n1 n2 n3 n4=>?_;subst zr0;subst zr2
   exact h (none,n) rfl n1 n2 n3 n4
theorem Aid{i j:Nat}{β:Type}{f:Unit->StateT SortSt Sem β}{Q:β->SortSt->Prop}(h:wpS sM sA sE sS (f ()) Q (setArr st (mirror (arrOf st) i j ((j - i) / 2)))):wpS sM sA sE sS (reverseSlice' i j>>=f) Q st:=by
 rw [reverseSlice'_eq];exact wpS_bind (wpS_modify h)
theorem Afs{src dst:Nat}{β:Type}{f:Unit->StateT SortSt Sem β}{Q:β->SortSt->Prop}(h:wpS sM sA sE sS (f ()) Q (setArr st (bubble (arrOf st) src (src - dst)))):wpS sM sA sE sS (moveDown' src dst>>=f) Q st:=by
 rw [moveDown'_eq];exact wpS_bind (wpS_modify h)
theorem Aft{arr:Array Keyed}(h:lo+n<=arr.size)(p:Nat):gt (mirror arr lo (lo+n) ((lo+n - lo) / 2)) p=if lo<=p/\p < lo+n then gt arr (lo+(lo+n) - 1 - p) else gt arr p:=by
 rw [Pe (getElem?_mirror_all h p)]
 split
 · exact Mk _ _
 · exact Mk _ _
theorem Sd(C:N1 sM sA sS sK sP sR)(inj:(sZ.toList.map sR).Nodup)(hB:Bg sK sZ st){Q:Option Nat->SortSt->Prop}(hn:lo+nrem=sZ.size)(h1:1<=nrem)
 (q:∀ m st',Bg sK sZ st'->pendingOf st'=pendingOf st->BKeep lo (arrOf st) (arrOf st')->1<=m->m<=nrem->Asc sR (arrOf st') lo m->Q (some m) st'):wpS sM sA sE sS (countRun' lo nrem) Q st:=by
 have hs:=hB.size
 have ne:∀ {st'},Bg sK sZ st'->∀ i,1<=i->i < nrem->sR (gt (arrOf st') (lo+i))≠sR (gt (arrOf st') (lo+i - 1)):=fun hB _ h1 h2=>(hB.ne inj (by exact o94 hn h1 hs) (by exact o95 hn h2)).symm
 delta countRun'
 k_delta "countRun"
 refine Afr (lo:=lo) (ne hB) (zI 1) h1 (fun p q h1 h2 h3=>by exact o96 hn h3 h2 hs h1) (fun k n R n1 n2 g1 g2=>Le C hB (by exact o95 hn n2) (by exact o97 hn n1 n2 hs) (fun c=>wpS_pure (g1 c)) fun c=>wpS_pure (g2 c)) ?_
 intro c c0 n1 n2 asc nx
 extract_lets -underBinder +onlyGivenNames r n
 have c0:r=none:=c0
 have n1:1<=n:=n1
 have n2:n<=nrem:=n2
 have asc:Asc sR (arrOf st) lo n:=asc
 have nx:n=nrem\/sR (gt (arrOf st) (lo+n)) < sR (gt (arrOf st) (lo+n - 1)):=nx
 clear_value r n
 subst c0
 have ok:=q n _ hB rfl (BKeep.refl _ _) n1 n2 asc
 refine El (fun _=>wpS_pure ok) fun c=>?_
 have nx:=nx.resolve_left c
 extract_lets -underBinder +onlyGivenNames jp
 refine Dh (fun c1=>Le C hB (by exact o98 hn c1 n2) (by exact o99 hn hs c1 n2) (fun _=>wpS_pure ok) fun e=>absurd (asc lo (lo+n - 1) (zI _) (by exact Akl hn hs c1) (by exact Akm hn hs c1)) e) fun c1=>?_
 clear ok asc
 refine Lc ?_
 refine Gp (fun x c st'=>st=st'/\c.1=none/\c.2.1=x/\c.2.2=0/\∀ p q,lo<=p->p < q->q < lo+x->sR (gt (arrOf st) q) < sR (gt (arrOf st) p))
  (fun c st'=>st=st'/\c.1=none/\c.2.2=0/\2<=c.2.1/\c.2.1<=nrem/\∀ p q,lo<=p->p < q->q < lo+c.2.1->sR (gt (arrOf st) q) < sR (gt (arrOf st) p)) ⟨rfl,rfl,rfl,rfl,fun p q h1 h2 h3=>?_⟩ ?step ?fin ?post
 · have e1:p=lo+n - 1:=by exact Akn hn n1 h3 h2 hs h1 c1
   have e2:q=lo+n:=by exact Ako hn n1 h3 h2 e1 hs h1 c1
   rw [e1,e2];exact nx
 case fin =>
  intro c _ zz
  refine Ep zz fun zr0 c0 c1 c2 h=>?_;subst zr0
  rw [Nat.max_eq_right (show n+1<=nrem by omega)] at c1 h
  rw [<- c1] at h
  exact ⟨rfl,c0,c2,by omega,by exact Ag5 c1,h⟩
 case step =>
  rintro x c _ hx hx' ⟨rfl,c0,c1,c2,h⟩ R R1 R2
  extract_lets -underBinder +onlyGivenNames s1 m neq
  have c1:m=x:=c1
  have c2:neq=0:=c2
  clear_value m neq
  clear s1
  subst c1 c2
  have nn:=ne hB m (by omega) hx'
  refine Le C hB (by exact Aiq hn hx' c1) (by omega) (fun c=>?_) fun c=>Atq (Le C hB (by omega) (by exact Aiq hn hx' c1) (fun _=>wpS_pure (R2 _ _ ⟨rfl,rfl,rfl,by show 2<=m;omega,by show m<=nrem;exact Akp hx' c1,h⟩)) fun c'=>by exact (Akq nn c c').elim)
  refine Atp (Dh (fun e=>absurd e (Nat.lt_irrefl 0)) fun _=>wpS_pure (R1 _ _ ⟨rfl,rfl,rfl,rfl,fun p q hp hpq hq=>?_⟩))
  by_cases e:q=lo+m
  · rw [e]
    by_cases e':p=lo+m - 1
    · rw [e'];exact c
    · exact Nat.lt_trans c (h p (lo+m - 1) hp (by exact Akr hn hpq e hs c1 hp e') (by exact Aks hn hpq e hs c1 hp))
  · exact h p q hp hpq (by exact Akt hn hq hs c1 e)
 case post =>
  clear c1 nx n1 n2 c jp
  intro c _ zz
  refine Lx zz fun zr0 c0 c2 n1 n2 h=>?_;subst zr0
  extract_lets -underBinder +onlyGivenNames r s1 n neq
  have c0:r=none:=c0
  have c2:neq=0:=c2
  have n1:2<=n:=n1
  have n2:n<=nrem:=n2
  have h:∀ p q,lo<=p->p < q->q < lo+n->sR (gt (arrOf st) q) < sR (gt (arrOf st) p):=h
  clear_value r n neq
  clear s1
  subst c0 c2
  refine Dh (fun e=>absurd e (Nat.lt_irrefl 0)) fun _=>Aid ?_
  have hB':Bg sK sZ (setArr st (mirror (arrOf st) lo (lo+n) ((lo+n - lo) / 2))):=⟨hB.kind,hB.fail,(Array.perm_iff_toList_perm.mp (mirror_perm _ _ _ _)).trans hB.perm⟩
  have mg:∀ p,gt (arrOf (setArr st (mirror (arrOf st) lo (lo+n) ((lo+n - lo) / 2)))) p=if lo<=p/\p < lo+n then gt (arrOf st) (lo+(lo+n) - 1 - p) else gt (arrOf st) p:=fun p=>Aft (by exact Aku hn hs n2) p
  have kp:BKeep lo (arrOf st) (arrOf (setArr st (mirror (arrOf st) lo (lo+n) ((lo+n - lo) / 2)))):=⟨mirror_size _ _ _ _,fun p hp=>by rw [mg,if_neg (by exact Akv hn hp hs)]⟩
  have asc:Asc sR (arrOf (setArr st (mirror (arrOf st) lo (lo+n) ((lo+n - lo) / 2)))) lo n:=fun p q hp hpq hq=>by
   rw [mg,mg,if_pos ⟨hp,by exact Akw hn hq hpq hs⟩,if_pos ⟨by exact Akx hn hpq hs hp,hq⟩]
   exact h _ _ (by exact Aky hn hq hs) (by exact Akz hn hq hpq hs) (by exact Ak0 hn hq hpq hs hp)
  have pe:pendingOf (setArr st (mirror (arrOf st) lo (lo+n) ((lo+n - lo) / 2)))=pendingOf st:=rfl
  generalize setArr st (mirror (arrOf st) lo (lo+n) ((lo+n - lo) / 2))=st2 at hB' kp asc pe
  clear mg h
  refine Afr (lo:=lo) (ne hB') (show 1<=n by exact Ak1 n1) n2 asc (fun k n R n1 n2 g1 g2=>Le C hB' (by exact o95 hn n2) (by exact o97 hn n1 n2 hs) (fun c=>wpS_pure (g1 c)) fun c=>wpS_pure (g2 c)) ?_
  rintro ⟨_,m⟩ rfl m1 m2 asc _
  exact wpS_pure (q m _ hB' pe kp (show 1<=m by have:n<=m:=m1;exact Ak2 n1 m1) m2 asc)
theorem Se(C:N1 sM sA sS sK sP sR)(inj:(sZ.toList.map sR).Nodup)(hB:Bg sK sZ st){β:Type}{f:Option Nat->StateT SortSt Sem β}{Q:β->SortSt->Prop}(hn:lo+nrem=sZ.size)(h1:1<=nrem)
 (q:∀ m st',Bg sK sZ st'->pendingOf st'=pendingOf st->BKeep lo (arrOf st) (arrOf st')->1<=m->m<=nrem->Asc sR (arrOf st') lo m->wpS sM sA sE sS (f (some m)) Q st'):wpS sM sA sE sS (countRun' lo nrem>>=f) Q st:=wpS_bind (Sd C inj hB hn h1 q)
theorem Afu{arr:Array Keyed}{src d:Nat}(hs:src < arr.size)(hd:d<=src)(p:Nat):gt (bubble arr src d) p=if p=src - d then gt arr src else if src - d < p/\p<=src then gt arr (p - 1) else gt arr p:=by
 rw [Pe (getElem?_bubble hs d hd p)]
 split
 · exact Mk _ _
 · split
   · exact Mk _ _
   · exact Mk _ _
theorem Uz(C:N1 sM sA sS sK sP sR)(inj:(sZ.toList.map sR).Nodup)(hB:Bg sK sZ st){ok:Nat}{Q:Bool->SortSt->Prop}(hn:lo+n<=sZ.size)(h1:1<=ok)(h2:ok<=n)(asc:Asc sR (arrOf st) lo ok)
 (q:∀ st',Bg sK sZ st'->pendingOf st'=pendingOf st->BKeep lo (arrOf st) (arrOf st')->Asc sR (arrOf st') lo n->Q true st'):wpS sM sA sE sS (binarySort' lo n ok) Q st:=by
 delta binarySort'
 k_delta "binarySort"
 refine Gp (fun x c st'=>c.1=none/\Bg sK sZ st'/\pendingOf st'=pendingOf st/\BKeep lo (arrOf st) (arrOf st')/\Asc sR (arrOf st') lo x) (fun c st'=>c.1=none/\Bg sK sZ st'/\pendingOf st'=pendingOf st/\BKeep lo (arrOf st) (arrOf st')/\Asc sR (arrOf st') lo n)
  ⟨rfl,hB,rfl,BKeep.refl _ _,by rw [Nat.max_eq_left h1];exact asc⟩ ?step ?fin ?post
 case fin =>
  intro c st' zz
  refine Ep zz fun c0 hB pe kp asc=>?_
  rw [Nat.max_eq_right (show max ok 1<=n by exact Ak3 h1 h2)] at asc
  exact ⟨c0,hB,pe,kp,asc⟩
 case post =>
  rintro ⟨_,_⟩ st' ⟨rfl,hB,pe,kp,asc⟩
  exact wpS_pure (q st' hB pe kp asc)
 case step =>
  clear asc hB
  rintro k c st' hk hk' ⟨_,hB,pe,kp,asc⟩ R R1 R2
  have hs:=hB.size
  have k1:1<=k:=by exact Ak4 hk
  refine Gp (fun x c st₁=>st'=st₁/\c.1=none/\c.2.1<=c.2.2/\c.2.2<=k/\c.2.2 - c.2.1<=k - x/\(∀ p,p < c.2.1->sR (gt (arrOf st') (lo+p)) < sR (gt (arrOf st') (lo+k)))/\∀ p,c.2.2<=p->p < k->sR (gt (arrOf st') (lo+k)) < sR (gt (arrOf st') (lo+p)))
   (fun c st₁=>st'=st₁/\c.1=none/\c.2.1<=k/\(∀ p,p < c.2.1->sR (gt (arrOf st') (lo+p)) < sR (gt (arrOf st') (lo+k)))/\∀ p,c.2.1<=p->p < k->sR (gt (arrOf st') (lo+k)) < sR (gt (arrOf st') (lo+p))) ⟨rfl,rfl,Nat.zero_le _,zI _,zI _,(fun p h=>absurd h (Nat.not_lt_zero _)),fun p h h'=>absurd h' (Nat.not_lt.mpr h)⟩ ?step ?fin ?post
  case fin =>
   intro c _ zz
   refine Ov zz fun zr0 c0 l1 l2 l3 l4 l5=>?_;subst zr0
   have e:c.2.2=c.2.1:=by exact Ak5 l3 k1 l1
   exact ⟨rfl,c0,by exact o34 e l2,l4,e▸l5⟩
  case step =>
   clear R1 R2 R
   rintro x c _ _ hx ⟨rfl,c0,l1,l2,l3,l4,l5⟩ R R1 R2
   extract_lets -underBinder +onlyGivenNames s1 l r m
   have l1:l<=r:=l1
   have l2:r<=k:=l2
   have l3:r - l<=k - x:=l3
   have l4:∀ p,p < l->sR (gt (arrOf st') (lo+p)) < sR (gt (arrOf st') (lo+k)):=l4
   have l5:∀ p,r<=p->p < k->sR (gt (arrOf st') (lo+k)) < sR (gt (arrOf st') (lo+p)):=l5
   clear_value l r
   clear s1
   refine Dh (fun c=>wpS_pure (R2 _ _ ?_)) fun c=>?_
   · have e:r=l:=by exact Ak6 l1 c
     exact ⟨rfl,rfl,zC l1 l2,l4,e▸l5⟩
   have em:(l+r) / 2=m:=rfl
   have m1:l<=m:=by omega
   have m2:m < r:=by omega
   have m3:m - l<=k - (x+1):=by omega
   have m4:r - (m+1)<=k - (x+1):=by omega
   clear_value m
   refine Le C hB (by exact Air hn hk' hs) (by exact Ak7 hn hk' m2 hs l2) (fun d=>wpS_pure (R1 _ _ ⟨rfl,rfl,m1,by show m<=k;exact Ak8 m2 l2,m3,l4,fun p hp hp'=>?_⟩)) fun d=>wpS_pure (R1 _ _ ⟨rfl,rfl,m2,l2,m4,fun p hp=>?_,l5⟩)
   · by_cases e:p=m
     · rw [e];exact d
     · have hp:m<=p:=hp
       exact Nat.lt_trans d (asc _ _ (by exact o54) (by exact Ak9 hp e) (by exact o70 hp'))
   · have hp:p < m+1:=hp
     have d':sR (gt (arrOf st') (lo+m)) < sR (gt (arrOf st') (lo+k)):=by have:=hB.ne inj (i:=lo+m) (j:=lo+k) (by exact Ais m2 l2) (by exact Air hn hk' hs);exact Ala this d
     by_cases e:p=m
     · rw [e];exact d'
     · exact Nat.lt_trans (asc _ _ (by exact o54) (by exact Alb hp e) (by exact Ais m2 l2)) d'
  case post =>
   intro c _ zz
   refine Ep zz fun zr0 c0 l2 l4 l5=>?_;subst zr0
   extract_lets -underBinder +onlyGivenNames r s1 l
   have c0:r=none:=c0
   have l2:l<=k:=l2
   have l4:∀ p,p < l->sR (gt (arrOf st') (lo+p)) < sR (gt (arrOf st') (lo+k)):=l4
   have l5:∀ p,l<=p->p < k->sR (gt (arrOf st') (lo+k)) < sR (gt (arrOf st') (lo+p)):=l5
   clear_value r l
   clear s1
   subst c0
   refine Afs (wpS_pure (R1 _ _ ?_))
   have bg:∀ p,gt (bubble (arrOf st') (lo+k) (lo+k - (lo+l))) p=if p=lo+l then gt (arrOf st') (lo+k) else if lo+l < p/\p<=lo+k then gt (arrOf st') (p - 1) else gt (arrOf st') p:=fun p=>by
    rw [Afu (by exact Alc hn hk' hs) (by exact Ald l2) p,show lo+k - (lo+k - (lo+l))=lo+l by exact Ale l2]
   refine ⟨rfl,⟨hB.kind,hB.fail,(Array.perm_iff_toList_perm.mp (bubble_perm _ _ _)).trans hB.perm⟩,pe,kp.trans ⟨bubble_size _ _ _,fun p hp=>?_⟩,fun p q hp hpq hq=>?_⟩
   · show gt (bubble _ _ _) p=_
     rw [bg,if_neg (by exact Alf hp),if_neg (by exact Alg hp)]
   · show sR (gt (bubble _ _ _) p) < sR (gt (bubble _ _ _) q)
     rw [bg,bg]
     have low:∀ p,lo<=p->p < lo+l->sR (gt (arrOf st') p) < sR (gt (arrOf st') (lo+k)):=fun p h1 h2=>by have:=l4 (p - lo) (by exact Alh h2 h1);rw [show lo+(p - lo)=p by exact o65 h1] at this;exact this
     have upp:∀ p,lo+l<=p->p < lo+k->sR (gt (arrOf st') (lo+k)) < sR (gt (arrOf st') p):=fun p h1 h2=>by have:=l5 (p - lo) (by exact Ali h1) (by exact Alj h1 h2);rw [show lo+(p - lo)=p by exact Alk h1] at this;exact this
     by_cases c1:q < lo+l
     · rw [if_neg (show ¬p=lo+l by exact Alm c1 hpq),if_neg (show ¬(lo+l < p/\p<=lo+k) by exact Aln c1 hpq),if_neg (show ¬q=lo+l by exact Alo c1),if_neg (show ¬(lo+l < q/\q<=lo+k) by exact Ait c1)]
       exact asc p q hp hpq (by exact Alp hq c1 l2)
     by_cases c2:q=lo+l
     · rw [if_neg (show ¬p=lo+l by exact Alq hpq c2),if_neg (show ¬(lo+l < p/\p<=lo+k) by exact Alr hpq c2),if_pos c2]
       exact low p hp (by exact Als hpq c2)
     rw [if_neg c2,if_pos (show lo+l < q/\q<=lo+k by exact Alt hq c1 c2)]
     by_cases c3:p=lo+l
     · rw [if_pos c3]
       exact upp (q - 1) (by exact Alu hpq c3) (by exact Alv k1 hq c3)
     rw [if_neg c3]
     by_cases c4:p < lo+l
     · rw [if_neg (show ¬(lo+l < p/\p<=lo+k) by exact Ait c4)]
       by_cases c5:p=q - 1
       · exact Alw c4 hpq c5 c1 c2 c3
       · exact asc p (q - 1) hp (by exact Alx hpq c5) (by exact Aly k1 hq)
     · rw [if_pos (show lo+l < p/\p<=lo+k by exact Alz hq hpq c4 c3)]
       exact asc (p - 1) (q - 1) (by exact Al0 hp c4 c3) (by exact Al1 hpq c4 c3) (by exact Al2 hq hpq)
end
section
variable{st:SortSt}
theorem Aie{st':SortSt}{Q:PUnit->SortSt->Prop}(h:Q ⟨⟩ st'):wpS sM sA sE sS (set st':StateT SortSt Sem PUnit) Q st:=by
 unfold wpS;rw [StateT.run_set];exact zH ⟨rfl,h⟩
theorem Afv{st':SortSt}{Q:PUnit->SortSt->Prop}(h:∀ st1,kindOf st1=kindOf st'->arrOf st1=arrOf st'->pendingOf st1=pendingOf st'->failedOf st1=failedOf st'->Q ⟨⟩ st1):wpS sM sA sE sS (set st':StateT SortSt Sem PUnit) Q st:=Aie (h st' rfl rfl rfl rfl)
theorem U0:∀ (r:List Keyed) (base off:Nat) (arr:Array Keyed),base+off+r.length<=arr.size->((r.zipIdx off).foldl (fun a (x:Keyed × Nat)=>a.setIfInBounds (base+x.2) x.1) arr).toList=arr.toList.take (base+off)++r++arr.toList.drop (base+off+r.length)
 | [],base,off,arr,_=>by
  show arr.toList=_
  rw [List.append_nil,List.length_nil,Nat.add_zero,List.take_append_drop]
 | x :: r,base,off,arr,h=>by
  rw [List.zipIdx_cons,List.foldl_cons]
  rw [List.length_cons] at h ⊢
  have ih:=U0 r base (off+1) (arr.setIfInBounds (base+off) x) (by rw [Array.size_setIfInBounds];exact Al3 h)
  refine ih.trans ?_
  have lt:base+off < arr.toList.length:=by rw [Array.length_toList];exact Al4 h
  rw [Array.toList_setIfInBounds]
  have e1:(arr.toList.set (base+off) x).take (base+(off+1))=arr.toList.take (base+off)++[x]:=by
   rw [show base+(off+1)=base+off+1 by exact Al5,List.take_add_one,List.take_set_of_le (zI _),List.getElem?_set_self lt];rfl
  have e2:(arr.toList.set (base+off) x).drop (base+(off+1)+r.length)=arr.toList.drop (base+off+(r.length+1)):=by
   rw [show base+off+(r.length+1)=base+(off+1)+r.length by exact Al6,List.drop_set_of_lt (by exact Al7)]
  rw [e1,e2,List.append_assoc _ [x]];rfl
theorem Q4{a:Array Keyed}{i j p:Nat}(h:i+p < j)(hj:j<=a.size):gt (a.extract i j) p=gt a (i+p):=by
 have:(a.extract i j)[p]?=a[i+p]?:=by
  rw [Array.getElem?_extract,if_pos (by exact Al8 h hj)]
 rw [Pe this,Mk]
theorem Gh{a:Array Keyed}{i j:Nat}(hj:j<=a.size):(a.extract i j).size=j - i:=by rw [Array.size_extract];exact Al9 hj
theorem Ym{arr arr' r:Array Keyed}{sa na nb k m:Nat}(ne:∀ i j,i < j->j < arr.size->sR (gt arr i)≠sR (gt arr j))(s1:Asc sR arr sa na)(s2:Asc sR arr (sa+na) nb)(hs:sa+na+nb<=arr.size)(k1:k < na)(k2:∀ i,i < k->sR (gt arr (sa+i))<=sR (gt arr (sa+na)))(m1:1<=m)(m2:m<=nb)(m3:∀ i,m<=i->i < nb->sR (gt arr (sa+na - 1))<=sR (gt arr (sa+na+i)))
 (sM:B7 sR (arr.extract (sa+k) (sa+na)) (arr.extract (sa+na) (sa+na+m)) r) (e:arr'.toList=arr.toList.take (sa+k)++r.toList++arr.toList.drop (sa+k+r.toList.length)) :
 arr'.toList.Perm arr.toList/\Asc sR arr' sa (na+nb)/\∀ p,p < sa\/sa+na+nb<=p->gt arr' p=gt arr p:=by
 obtain ⟨pm,sr⟩:=sM
 have rl:r.size=(na - k)+m:=by
  have:=pm.length_eq
  rw [List.length_append] at this
  have e1:(arr.extract (sa+k) (sa+na)).toList.length=sa+na - (sa+k):=Gh (by exact Ama hs)
  have e2:(arr.extract (sa+na) (sa+na+m)).toList.length=sa+na+m - (sa+na):=Gh (by exact Amc hs m2)
  have e3:r.toList.length=r.size:=rfl
  exact Amd m1 k1 e2 e1 this e3
 have rl':r.toList.length=(na - k)+m:=rl
 have tl:(arr.toList.take (sa+k)).length=sa+k:=by rw [List.length_take,Array.length_toList];exact Ame hs k1
 -- where the things are now
 have low:∀ p,p < sa+k->gt arr' p=gt arr p:=fun p hp=>by
  have:arr'[p]?=arr[p]?:=by
   rw [<- Array.getElem?_toList,e,List.append_assoc,List.getElem?_append_left (by exact Amf hp tl),List.getElem?_take_of_lt hp,Array.getElem?_toList]
  rw [Pe this,Mk]
 have mid:∀ p,sa+k<=p->p < sa+na+m->gt arr' p=gt r (p - (sa+k)):=fun p hp hp'=>by
  have:arr'[p]?=r[p - (sa+k)]?:=by
   rw [<- Array.getElem?_toList,e,List.append_assoc,List.getElem?_append_right (by exact Amg hp tl),tl,List.getElem?_append_left (by exact Amh hp hp' k1 rl rl' tl),Array.getElem?_toList]
  rw [Pe this,Mk]
 have upp:∀ p,sa+na+m<=p->gt arr' p=gt arr p:=fun p hp=>by
  have:arr'[p]?=arr[p]?:=by
   rw [<- Array.getElem?_toList,e,List.getElem?_append_right (by rw [List.length_append];exact Ami hp k1 rl rl' tl),List.length_append,List.getElem?_drop,rl',tl,Array.getElem?_toList]
   congr 1;exact Amj hp k1 rl rl' tl
  rw [Pe this,Mk]
 have of:∀ j,j < r.size->(∃ i,sa+k<=i/\i < sa+na/\gt r j=gt arr i)\/∃ i,sa+na<=i/\i < sa+na+m/\gt r j=gt arr i:=fun j hj=>by
  have:=pm.mem_iff.mp (zF (Do hj))
  rcases List.mem_append.mp this with h | h
  · refine ex1 (Aaq h) fun i zz=>Ac zz fun hi e=>?_
    rw [Gh (by exact Aiu hs tl)] at hi
    rw [Q4 (by exact Aiv hi k1) (by exact Aiu hs tl)] at e
    exact .inl ⟨sa+k+i,by exact Ag6,by exact Aiv hi k1,e⟩
  · refine ex1 (Aaq h) fun i zz=>Ac zz fun hi e=>?_
    rw [Gh (by exact Ag7 hs rl rl' tl m2)] at hi
    rw [Q4 (by exact Aiw m1 hi rl rl') (by exact Ag7 hs rl rl' tl m2)] at e
    exact .inr ⟨sa+na+i,by exact Ag6,by exact Aiw m1 hi rl rl',e⟩
 have le1:∀ i j,sa<=i->i<=j->j < sa+na->sR (gt arr i)<=sR (gt arr j):=fun i j a b c=>by
  by_cases e:i=j
  · rw [e];exact zI _
  · exact zL (s1 i j a (by exact o61 b e) c)
 have le2:∀ i j,sa+na<=i->i<=j->j < sa+na+nb->sR (gt arr i)<=sR (gt arr j):=fun i j a b c=>by
  by_cases e:i=j
  · rw [e];exact zI _
  · exact zL (s2 i j a (by exact o61 b e) c)
 have kk:∀ i,sa<=i->i < sa+k->sR (gt arr i) < sR (gt arr (sa+na)):=fun i a b=>by
  have:=k2 (i - sa) (by exact Amk b tl a)
  rw [show sa+(i - sa)=i by exact Aml tl a] at this
  have:=ne i (sa+na) (by exact Aix b k1 tl) (by exact Amm hs m1 rl rl' tl m2)
  omega
 have mm:∀ i,sa+na+m<=i->i < sa+na+nb->sR (gt arr (sa+na - 1)) < sR (gt arr i):=fun i a b=>by
  have:=m3 (i - (sa+na)) (by exact Amn a m1 rl rl' tl) (by exact Amo m1 b rl rl' tl m2)
  rw [show sa+na+(i - (sa+na))=i by exact Amp a m1 rl rl' tl] at this
  have:=ne (sa+na - 1) i (by exact Amq a m1 k1 rl rl' tl) (by exact Amr hs b tl)
  omega
 refine ⟨?_,fun p q hp hpq hq=>?_,fun p hp=>?_⟩
 · rw [e,rl']
   have e1:arr.toList=arr.toList.take (sa+k)++((arr.extract (sa+k) (sa+na)).toList++(arr.extract (sa+na) (sa+na+m)).toList)++arr.toList.drop (sa+k+(na - k+m)):=by
    rw [E6,E6,Nat.add_sub_cancel_left]
    have d1:(arr.toList.drop (sa+k)).take (sa+na - (sa+k))++((arr.toList.drop (sa+na)).take m++arr.toList.drop (sa+k+(na - k+m)))=arr.toList.drop (sa+k):=by
     have d2:(arr.toList.drop (sa+na)).take m++arr.toList.drop (sa+k+(na - k+m))=arr.toList.drop (sa+na):=by
      have:arr.toList.drop (sa+na+m)=(arr.toList.drop (sa+na)).drop m:=by rw [List.drop_drop]
      rw [show sa+k+(na - k+m)=sa+na+m by exact Ams k1,this,List.take_append_drop]
     rw [d2]
     have:arr.toList.drop (sa+na)=(arr.toList.drop (sa+k)).drop (sa+na - (sa+k)):=by rw [List.drop_drop,show sa+k+(sa+na - (sa+k))=sa+na by exact Amt k1]
     rw [this,List.take_append_drop]
    rw [List.append_assoc,List.append_assoc,d1,List.take_append_drop]
   refine List.Perm.trans ?_ (List.Perm.of_eq e1.symm)
   exact List.Perm.append_right _ (List.Perm.append_left _ pm)
 · by_cases c1:q < sa+k
   · rw [low p (by exact Amu c1 hpq tl),low q c1]
     exact s1 p q hp hpq (by exact Aix c1 k1 tl)
   by_cases c2:p < sa+k
   · rw [low p c2]
     by_cases c3:q < sa+na+m
     · rw [mid q (by exact Ag8 tl c1) c3]
       rcases of (q - (sa+k)) (by exact Ag9 c3 k1 rl rl' tl c1) with ⟨i,a,b,e⟩ | ⟨i,a,b,e⟩
       · rw [e];exact s1 p i hp (by exact Amv a c2 tl) b
       · rw [e];exact zD (kk p hp c2) (le2 _ _ (zI _) a (by exact Amw b rl rl' tl m2))
     · rw [upp q (by exact Agu rl rl' tl c3)]
       exact zD (kk p hp c2) (le2 _ _ (zI _) (by exact Aiy m1 rl rl' tl c3) (by exact Agv hq tl))
   by_cases c3:p < sa+na+m
   · rw [mid p (by exact Ag8 tl c2) c3]
     by_cases c4:q < sa+na+m
     · rw [mid q (by exact Ag8 tl c1) c4]
       exact sr.at (by exact Amx hpq tl c1 c2) (by exact Ag9 c4 k1 rl rl' tl c1)
     · rw [upp q (by exact Agu rl rl' tl c4)]
       rcases of (p - (sa+k)) (by exact Ag9 c3 k1 rl rl' tl c2) with ⟨i,a,b,e⟩ | ⟨i,a,b,e⟩
       · rw [e];exact zA (le1 i (sa+na - 1) (by exact Amy a tl) (by exact Amz b k1 tl) (by exact Am0 b tl)) (mm q (by exact Agu rl rl' tl c4) (by exact Agv hq tl))
       · rw [e];exact s2 i q a (by exact Am1 b rl rl' tl c4) (by exact Agv hq tl)
   · rw [upp p (by exact Agu rl rl' tl c3),upp q (by exact Am2 hpq rl rl' tl c3)]
     exact s2 p q (by exact Aiy m1 rl rl' tl c3) hpq (by exact Agv hq tl)
 · rcases hp with h | h
   · exact low p (by exact Am3 h tl)
   · exact upp p (by exact Ag7 h rl rl' tl m2)
theorem Acp{arr:Array Keyed}{sa na nb:Nat}(s1:Asc sR arr sa na)(s2:Asc sR arr (sa+na) nb)(h1:1<=na)(h2:1<=nb)(h:sR (gt arr (sa+na - 1)) < sR (gt arr (sa+na))):Asc sR arr sa (na+nb):=by
 intro p q hp hpq hq
 by_cases c1:q < sa+na
 · exact s1 p q hp hpq c1
 by_cases c2:p < sa+na
 · have a:sR (gt arr p)<=sR (gt arr (sa+na - 1)):=by
    by_cases e:p=sa+na - 1
    · rw [e];exact zI _
    · exact zL (s1 p _ hp (by exact Am4 h1 c2 e) (by exact Am5 c2))
   have b:sR (gt arr (sa+na))<=sR (gt arr q):=by
    by_cases e:q=sa+na
    · rw [e];exact zI _
    · exact zL (s2 _ q (zI _) (by exact Am6 c1 e) (by exact Aiz hq))
   exact Am7 h a b
 · exact s2 p q (by exact Am8 c2) hpq (by exact Aiz hq)
theorem U1(C:N1 sM sA sS sK sP sR)(inj:(sZ.toList.map sR).Nodup)(hB:Bg sK sZ st){Q:Bool->SortSt->Prop}{i sa na nb pw pw':Nat}(p1:(pendingOf st)[i]?=some (sa,na,pw))(p2:(pendingOf st)[i+1]?=some (sa+na,nb,pw'))(h1:1<=na)(h2:1<=nb)(hs:sa+na+nb<=sZ.size)(s1:Asc sR (arrOf st) sa na)(s2:Asc sR (arrOf st) (sa+na) nb)
 (q:∀ st',Bg sK sZ st'->pendingOf st'=((pendingOf st).setIfInBounds i (sa,na+nb,pw)).eraseIdxIfInBounds (i+1)->Asc sR (arrOf st') sa (na+nb)->(∀ p,p < sa\/sa+na+nb<=p->gt (arrOf st') p=gt (arrOf st) p)->Q true st'):wpS sM sA sE sS (mergeAt' i) Q st:=by
 have sz:=hB.size
 have ne:∀ i j,i < j->j < (arrOf st).size->sR (gt (arrOf st) i)≠sR (gt (arrOf st) j):=fun i j a b=>hB.ne inj a (by exact Am9 b sz)
 delta mergeAt'
 k_delta "mergeAt"
 refine N2 ?_
 simp -zeta only [p1,p2]
 refine wpS_bind (Afv fun st1 e1 e2 e3 e4=>?_)
 have B1:Bg sK sZ st1:=⟨e1.trans hB.kind,e4.trans hB.fail,by rw [e2];exact hB.perm⟩
 have P1:pendingOf st1=((pendingOf st).setIfInBounds i (sa,na+nb,pw)).eraseIdxIfInBounds (i+1):=e3
 have A1:arrOf st1=arrOf st:=e2
 clear e1 e2 e3 e4
 have fin:sR (gt (arrOf st) (sa+na - 1))<=sR (gt (arrOf st) (sa+na))->Q true st1:=fun h=>q st1 B1 P1 (by rw [A1];exact Acp s1 s2 h1 h2 (by have:=ne (sa+na - 1) (sa+na) (by exact Ana h1) (by exact Ai0 hs h2 sz);exact Anb this h)) fun p _=>by rw [A1]
 refine Ck (show sa+na < (arrOf st).size by exact Ai0 hs h2 sz) (Uu C B1.kind (hB.mem (by exact Anc hs h2 sz)) (show sa+na<=(arrOf st).size by exact Aha hs h2 sz) (fun i hi=>hB.mem (by exact Ane hs h2 hi sz)) s1 (by exact Ahb h1) fun k k1 k2 k3=>?_)
 dsimp -zeta only
 have k2:∀ i,i < k->sR (gt (arrOf st) (sa+i))<=sR (gt (arrOf st) (sa+na)):=k2
 have k3:∀ i,k<=i->i < na->sR (gt (arrOf st) (sa+na)) < sR (gt (arrOf st) (sa+i)):=k3
 refine El (fun c1=>wpS_pure (fin ?_)) fun c1=>?_
 · have a:=k2 (na - 1) (by exact Anf c1 h1)
   rwa [show sa+(na - 1)=sa+na - 1 by exact Ang h1] at a
 have c1:k < na:=by exact Anh c1 k1
 rw [show sa+k+(na - k) - 1=sa+na - 1 by exact Ani h1 c1]
 refine Ck (show sa+na - 1 < (arrOf st).size by exact Anj hs h1 h2 sz) (Uu C B1.kind (hB.mem (by exact Ank hs h1 h2 sz)) (show sa+na+nb<=(arrOf st).size by exact Ai1 hs sz) (fun i hi=>hB.mem (by exact Anl hs hi sz)) s2 (by exact o68 h2) fun m m1 m2 m3=>?_)
 dsimp -zeta only
 have m2:∀ i,i < m->sR (gt (arrOf st) (sa+na+i)) < sR (gt (arrOf st) (sa+na - 1)):=m2
 have m3:∀ i,m<=i->i < nb->sR (gt (arrOf st) (sa+na - 1))<=sR (gt (arrOf st) (sa+na+i)):=m3
 refine El (fun c2=>wpS_pure (fin (m3 0 (by exact Anm c2) (by exact Ahb h2)))) fun c2=>?_
 have c2:1<=m:=by exact Ann c2
 have z1:((arrOf st).extract (sa+k) (sa+na)).size=na - k:=by rw [Gh (by exact Aha hs h2 sz)];exact Ano c1
 have z2:((arrOf st).extract (sa+na) (sa+na+m)).size=m:=by rw [Gh (by exact Anp hs sz m1)];exact Anq c2
 have g1:∀ p,p < na - k->gt ((arrOf st).extract (sa+k) (sa+na)) p=gt (arrOf st) (sa+k+p):=fun p hp=>Q4 (by exact Ai2 hp c1) (by exact Aha hs h2 sz)
 have g2:∀ p,p < m->gt ((arrOf st).extract (sa+na) (sa+na+m)) p=gt (arrOf st) (sa+na+p):=fun p hp=>Q4 (by exact Anr hp z2) (by exact Ans hs sz z2 m1)
 have T:Two sP sR ((arrOf st).extract (sa+k) (sa+na)) ((arrOf st).extract (sa+na) (sa+na+m)):=by
  refine ⟨Ut fun i j hij hj=>?_,Ut fun i j hij hj=>?_,fun i hi=>?_,fun i hi=>?_,fun i j hi hj=>?_,by exact Ant c1 z1,by exact Anu c2 z2,?_,?_⟩
  · rw [z1] at hj
    rw [g1 i (by exact Anv hj hij),g1 j hj];exact s1 _ _ (by exact Anw) (by exact Ai3 hij) (by exact Ai2 hj c1)
  · rw [z2] at hj
    rw [g2 i (by exact Anx hij hj z2),g2 j hj];exact s2 _ _ (by exact Ag6) (by exact Ai3 hij) (by exact Any hj z2 m1)
  · rw [z1] at hi
    rw [g1 i hi];exact hB.mem (by exact Anz hs c2 hi c1 sz z2 m1)
  · rw [z2] at hi
    rw [g2 i hi];exact hB.mem (by exact An0 hs hi sz z2 m1)
  · rw [z1] at hi
    rw [z2] at hj
    rw [g1 i hi,g2 j hj];exact ne _ _ (by exact An1 hi c1) (by exact An2 hs hj sz z2 m1)
  · rw [g1 0 (by exact An3 c1 z1),g2 0 (by exact An4 c2 z2)];exact k3 k (zI _) c1
  · rw [z1,z2,g1 _ (by exact An5 c1),g2 _ (by exact Ai4 c2 z2),show sa+k+(na - k - 1)=sa+na - 1 by exact An6 h1 c1];exact m2 (m - 1) (by exact Ai4 c2 z2)
 -- what is merged is put back
 have back:∀ (r:Array Keyed) (st2:SortSt),Same st1 st2->B7 sR ((arrOf st).extract (sa+k) (sa+na)) ((arrOf st).extract (sa+na) (sa+na+m)) r ->
  Q true (SortSt.mk' (kindOf st2) (r.toList.zipIdx.foldl (fun a (x:Keyed × Nat)=>a.setIfInBounds (sa+k+x.2) x.1) (arrOf st2)) (pendingOf st2) (gallopOf st2) (failedOf st2))/\failedOf st2=none:=by
  intro r st2 sm sM
  have ea:arrOf st2=arrOf st:=sm.arr.trans A1
  have rl:r.toList.length=(na - k)+m:=by
   have:=sM.1.length_eq
   rw [List.length_append] at this
   have e1:((arrOf st).extract (sa+k) (sa+na)).toList.length=na - k:=z1
   have e2:((arrOf st).extract (sa+na) (sa+na+m)).toList.length=m:=z2
   exact An7 this e1 z2 e2
  have e:=U0 r.toList (sa+k) 0 (arrOf st2) (by rw [ea,rl];exact An8 hs c1 rl sz z2 m1)
  rw [ea,Nat.add_zero] at e
  refine Ap (Ym (arr':=r.toList.zipIdx.foldl (fun a (x:Keyed × Nat)=>a.setIfInBounds (sa+k+x.2) x.1) (arrOf st)) ne s1 s2 (by exact Ai1 hs sz) c1 k2 c2 m1 m3 sM e) fun q1 q2 q3=>?_
  rw [ea]
  exact ⟨q _ ⟨sm.kind.trans B1.kind,sm.fail.trans B1.fail,q1.trans hB.perm⟩ (sm.pend.trans P1) q2 q3,sm.fail.trans B1.fail⟩
 extract_lets -underBinder +onlyGivenNames x y jp
 have hj:∀ r st2,Same st1 st2->B7 sR x y r->wpS sM sA sE sS (jp r) Q st2:=fun r st2 sm sM=>by
  obtain ⟨q1,q2⟩:=back r st2 sm sM
  refine wpS_bind (wpS_modify (N2 (wpS_pure ?_)))
  show Q (failedOf st2).isNone _
  rw [q2];exact q1
 exact Dh (fun _=>wpS_bind (Uv C T B1.kind hj)) fun _=>wpS_bind (Uy C T B1.kind hj)
end
section
variable{st:SortSt}
noncomputable def Jj(ρ:Keyed->Nat)(arr:Array Keyed):List (Nat × Nat)->Nat->Nat->Prop
 | [],a,b=>a=b
 | x :: l,a,b=>x.1=a/\1<=x.2/\Asc ρ arr a x.2/\Jj ρ arr l (a+x.2) b
theorem Jj.le{arr:Array Keyed}:∀ {l:List (Nat × Nat)} {a b:Nat},Jj sR arr l a b->a+l.length<=b
 | [],a,b,h=>by show a+0<=b;exact zG h
 | x :: l,a,b,⟨_,h1,_,h⟩=>by
  have:=Jj.le h
  rw [List.length_cons];exact An9 this h1
theorem Jj.congr{arr arr':Array Keyed}:∀ {l:List (Nat × Nat)} {a b:Nat},(∀ p,a<=p->p < b->gt arr' p=gt arr p)->Jj sR arr l a b->Jj sR arr' l a b
 | [],a,b,_,h=>h
 | x :: l,a,b,e,⟨h0,h1,h2,h⟩=>by
  have le:=Jj.le h
  refine ⟨h0,h1,fun p q hp hpq hq=>?_,Jj.congr (fun p hp hp'=>e p (by exact Aoa hp h1) hp') h⟩
  rw [e p hp (by exact Aob le hq hpq),e q (by exact Aoc hpq hp) (by exact Aod le hq)]
  exact h2 p q hp hpq hq
theorem Jj.split{arr:Array Keyed}:∀ {l l':List (Nat × Nat)} {a b:Nat},Jj sR arr (l++l') a b->∃ m,Jj sR arr l a m/\Jj sR arr l' m b
 | [],l',a,b,h=>⟨a,rfl,h⟩
 | x :: l,l',a,b,⟨h0,h1,h2,h⟩=>by
  refine ex1 (Jj.split h) fun m zz=>Ac zz fun h3 h4=>?_
  exact ⟨m,⟨h0,h1,h2,h3⟩,h4⟩
theorem Jj.join{arr:Array Keyed}:∀ {l l':List (Nat × Nat)} {a m b:Nat},Jj sR arr l a m->Jj sR arr l' m b->Jj sR arr (l++l') a b
 | [],l',a,m,b,h,h'=>by have h:a=m:=h;rw [h];exact h'
 | x :: l,l',a,m,b,⟨h0,h1,h2,h⟩,h'=>⟨h0,h1,h2,Jj.join h h'⟩
noncomputable def rn(P:Array (Nat × Nat × Nat)):List (Nat × Nat):=P.toList.map fun x=>(x.1,x.2.1)
theorem U2(P:Array (Nat × Nat × Nat)):(rn P).length=P.size:=by unfold rn;rw [List.length_map];rfl
theorem Acq(P:Array (Nat × Nat × Nat))(a b c:Nat):rn (P.push (a,b,c))=rn P++[(a,b)]:=by
 unfold rn;rw [Array.toList_push,List.map_append];rfl
theorem U3(P:Array (Nat × Nat × Nat))(i:Nat){f:Nat × Nat × Nat->Nat × Nat × Nat}(h:∀ x,((f x).1,(f x).2.1)=(x.1,x.2.1)):rn (P.modify i f)=rn P:=by
 unfold rn
 rw [Array.toList_modify]
 refine List.ext_getElem? fun j=>?_
 rw [List.getElem?_map,List.getElem?_map,List.getElem?_modify]
 cases P.toList[j]? with
 | none=>rfl
 | some x =>
  show some _=some _
  by_cases e:i=j
  · simp only [e,if_true]
    exact congrArg some (h x)
  · simp only [e,if_false]
theorem Yn{P:Array (Nat × Nat × Nat)}{i:Nat}(h:i+1 < P.size):∃ l1 l2 sa na p sb nb p',P[i]?=some (sa,na,p)/\P[i+1]?=some (sb,nb,p')/\rn P=l1++(sa,na) :: (sb,nb) :: l2/\∀ z,rn ((P.setIfInBounds i z).eraseIdxIfInBounds (i+1))=l1++(z.1,z.2.1) :: l2:=by
 have hl:i+1 < P.toList.length:=h
 have e1:P[i]?=some P[i]:=Array.getElem?_eq_getElem (by exact Ai5 h)
 have e2:P[i+1]?=some P[i+1]:=Array.getElem?_eq_getElem h
 have e:P.toList=P.toList.take i++P[i] :: P[i+1] :: P.toList.drop (i+2):=by
  have a:P.toList.drop i=P[i] :: P.toList.drop (i+1):=List.drop_eq_getElem_cons (by exact Ai5 hl)
  have b:P.toList.drop (i+1)=P[i+1] :: P.toList.drop (i+2):=List.drop_eq_getElem_cons hl
  rw [<- b,<- a,List.take_append_drop]
 have tl:(P.toList.take i).length=i:=by rw [List.length_take];exact Aoe hl
 refine ⟨(P.toList.take i).map fun x=>(x.1,x.2.1),(P.toList.drop (i+2)).map fun x=>(x.1,x.2.1),P[i].1,P[i].2.1,P[i].2.2,P[i+1].1,P[i+1].2.1,P[i+1].2.2,e1,e2,?_,fun z=>?_⟩
 · show P.toList.map _=_
   rw [e,List.map_append]
   rw [<- e];rfl
 · show List.map _ ((P.setIfInBounds i z).eraseIdxIfInBounds (i+1)).toList=_
   rw [Array.toList_eraseIdxIfInBounds,Array.toList_setIfInBounds]
   have e3:(P.toList.set i z).eraseIdx (i+1)=P.toList.take i++z :: P.toList.drop (i+2):=by
    rw [List.eraseIdx_eq_take_drop_succ,List.take_add_one,List.take_set_of_le (zI _),List.getElem?_set_self (by exact Aof hl tl),List.drop_set_of_lt (by exact Aog)]
    rw [List.append_assoc];rfl
   rw [e3,List.map_append];rfl
structure Ok(κ:SortKind)(ρ:Keyed->Nat)(a₀:Array Keyed)(top:Nat)(st:SortSt):Prop where
 bg:Bg κ a₀ st
 runs:Jj ρ (arrOf st) (rn (pendingOf st)) 0 top
 le:top<=a₀.size
theorem U4(C:N1 sM sA sS sK sP sR)(inj:(sZ.toList.map sR).Nodup){top i:Nat}(O:Ok sK sR sZ top st)(hi:i+1 < (pendingOf st).size){Q:Bool->SortSt->Prop}
 (q:∀ st',Ok sK sR sZ top st'->(pendingOf st').size+1=(pendingOf st).size->(∀ p,top<=p->gt (arrOf st') p=gt (arrOf st) p)->Q true st'):wpS sM sA sE sS (mergeAt' i) Q st:=by
 refine ex8 (Yn hi) fun l1 l2 sa na pw sb nb pw' zz=>Cl zz fun p1 p2 e e'=>?_
 have r:=O.runs
 rw [e] at r
 refine ex1 r.split fun m zz=>Ac zz fun r1 zz=>Cl zz fun h0 h1 h2 zz=>Cl zz fun h3 h4 h5 r2=>?_
 dsimp only at h0 h1 h2 h3 h4 h5 r2
 subst h0
 subst h3
 have le:=r2.le
 have hle:=O.le
 refine U1 C inj O.bg p1 p2 h1 h4 (by exact Ai6 le hle) h2 h5 fun st' B P as kp=>q st' ⟨B,?_,hle⟩ ?_ fun p hp=>kp p (.inr (by exact Ai6 le hp))
 · rw [P,e']
   refine Jj.join (r1.congr fun p _ hp=>kp p (.inl hp)) ⟨rfl,by show 1<=na+nb;exact Aoh h1 h4,as,?_⟩
   show Jj sR (arrOf st') l2 (sa+(na+nb)) top
   rw [<- Nat.add_assoc]
   exact r2.congr fun p hp _=>kp p (.inr hp)
 · have a1:=congrArg List.length e
   have a2:=congrArg List.length (e' (sa,na+nb,pw))
   rw [U2] at a1 a2
   rw [P]
   simp only [List.length_append,List.length_cons] at a1 a2
   exact Aoi a1 a2
theorem Q5{g:SortSt->SortSt}{β:Type}{f:PUnit->StateT SortSt Sem β}{Q:β->SortSt->Prop}(h:wpS sM sA sE sS (f ⟨⟩) Q (g st)):wpS sM sA sE sS (modify g>>=f) Q st:=wpS_bind (wpS_modify h)
theorem Aif{β:Type}{m1 m2:StateT SortSt Sem β}{Q:β->SortSt->Prop}(h:wpS sM sA sE sS m2 Q st):wpS sM sA sE sS (if (!true)=true then m1 else m2) Q st:=h
theorem Afw{c:Prop}[Decidable c]{n:Nat}(h:2<=n):(if c then n - 2 - 1 else n - 2)+1 < n:=by
 by_cases q:c
 · rw [if_pos q];exact Aoj h
 · rw [if_neg q];exact Aok h
theorem Acr:Sc (sM,sA,sE,sS,sK,sR,sZ):=by
 intro C inj h2 st Q B0 P0 q
 have h2:2<=sZ.size:=h2
 have B0:Bg sK sZ st:=B0
 delta sortRuns'
 k_delta "sortRuns"
 refine N2 ?_
 extract_lets -underBinder +onlyGivenNames size mr lo0
 have sz:size=sZ.size:=B0.size
 clear_value size mr
 subst sz
 refine Gp (fun x c st'=>c.1=none/\Ok sK sR sZ c.2 st'/\x<=c.2) (fun c st'=>c.1=none/\Ok sK sR sZ sZ.size st') ⟨rfl,⟨B0,by rw [P0];rfl,Nat.zero_le _⟩,zI _⟩ ?step ?fin ?post
 case fin =>
  intro c st' h
  have e:c.2=sZ.size:=by have:=h.2.1.le;have:=h.2.2;omega
  exact ⟨h.1,e▸h.2.1⟩
 case step =>
  intro x c st1 _ hx h R R1 R2
  extract_lets -underBinder +onlyGivenNames lo
  have O:Ok sK sR sZ lo st1:=h.2.1
  have hl:x<=lo:=h.2.2
  clear_value lo
  have le:=O.le
  refine Dh (fun c=>wpS_pure (R2 _ _ ⟨rfl,(show lo=sZ.size by exact Aol le c)▸O⟩)) fun c=>Se C inj O.bg (show lo+(sZ.size - lo)=sZ.size by exact Aom c) (by exact Aon c) fun n st2 B2 pe kp n1 n2 asc=>?_
  have O2:Ok sK sR sZ lo st2:=⟨B2,by rw [pe];exact O.runs.congr fun p _ hp=>kp.low p hp,le⟩
  clear O pe kp B2
  dsimp -zeta only
  extract_lets -underBinder +onlyGivenNames n' jp
  have hj:∀ n st,Ok sK sR sZ lo st->1<=n->lo+n<=sZ.size->Asc sR (arrOf st) lo n->wpS sM sA sE sS (jp () n) R st:=by
   clear asc n1 n2 O2
   intro n st O n1 n2 asc
   refine N2 ?_
   extract_lets -underBinder +onlyGivenNames jp2
   have hj:∀ st,Ok sK sR sZ lo st->Asc sR (arrOf st) lo n->wpS sM sA sE sS (jp2 ()) R st:=fun st O asc=>by
    refine Q5 (wpS_pure (R1 _ _ ⟨rfl,⟨⟨O.bg.kind,O.bg.fail,O.bg.perm⟩,?_,n2⟩,by show x+1<=lo+n;exact Aoo n1 hl⟩))
    show Jj sR (arrOf st) (rn ((pendingOf st).push (lo,n,0))) 0 (lo+n)
    rw [Acq]
    exact O.runs.join ⟨rfl,n1,asc,rfl⟩
   clear_value jp2
   generalize (pendingOf st).back?=bk
   rcases bk with _ | ⟨s1,k1,pz⟩
   · exact hj st O asc
   refine Gp (fun _ c st'=>c.1=none/\Ok sK sR sZ lo st'/\Asc sR (arrOf st') lo n) (fun c st'=>c.1=none/\Ok sK sR sZ lo st'/\Asc sR (arrOf st') lo n) ⟨rfl,O,asc⟩ ?step2 (fun _ _ h=>h) ?post2
   case post2 =>
    rintro ⟨_,_⟩ st4 ⟨rfl,O4,asc4⟩
    refine Q5 (hj _ ⟨⟨O4.bg.kind,O4.bg.fail,O4.bg.perm⟩,?_,le⟩ asc4)
    show Jj sR (arrOf st4) (rn ((pendingOf st4).modify ((pendingOf st4).size - 1) _)) 0 lo
    rw [U3]
    · exact O4.runs
    · exact fun _=>rfl
   case step2 =>
    rintro y _ st4 _ _ ⟨_,O4,asc4⟩ R' S1 S2
    refine N2 ?_
    by_cases c2:(pendingOf st4).size > 1
    · have e1:(pendingOf st4)[(pendingOf st4).size - 2]?=some (pendingOf st4)[(pendingOf st4).size - 2]:=Array.getElem?_eq_getElem (by exact Aop c2)
      obtain ⟨z1,z2,z3⟩:=(pendingOf st4)[(pendingOf st4).size - 2]
      simp only [if_pos c2,e1]
      exact Dh (fun _=>wpS_pure (S2 _ _ ⟨rfl,O4,asc4⟩)) fun _=>wpS_bind (U4 C inj O4 (show (pendingOf st4).size - 2+1 < (pendingOf st4).size by exact Aoq c2) fun st5 O5 _ kp=>Aif (wpS_pure (S1 _ _ ⟨rfl,O5,fun p q hp hpq hq=>by rw [kp p hp,kp q (by exact Aor hpq c2 hp)];exact asc4 p q hp hpq hq⟩)))
    · simp only [if_neg c2]
      exact wpS_pure (S2 _ _ ⟨rfl,O4,asc4⟩)
  refine Dh (fun c1=>Lc (wpS_bind (Uz C inj O2.bg (n:=min (sZ.size - lo) mr) (by exact Ai7 c) n1 (by have:n < mr:=c1;omega) asc fun st3 B3 pe kp asc3=>Aif (hj _ _ ⟨B3,by rw [pe];exact O2.runs.congr fun p _ hp=>kp.low p hp,le⟩ (by have:n < mr:=c1;exact Aos n1 c1 n2) (by exact Ai7 c) asc3)))) fun c1=>hj _ _ O2 n1 (by omega) asc
 case post =>
  rintro ⟨_,_⟩ st1 ⟨rfl,O⟩
  have pl:(pendingOf st1).size<=sZ.size:=by have:=O.runs.le;rw [U2] at this;exact Aot this
  refine Gp (fun x c st'=>c.1=none/\Ok sK sR sZ sZ.size st'/\((pendingOf st').size<=1\/(pendingOf st').size<=sZ.size - x)) (fun c st'=>c.1=none/\Ok sK sR sZ sZ.size st'/\(pendingOf st').size<=1) ⟨rfl,O,.inr pl⟩ ?step3 ?fin3 ?post3
  case step3 =>
   rintro x c st2 _ hx ⟨_,O2,p2⟩ R R1 R2
   refine N2 (Dh (fun c=>wpS_pure (R2 _ _ ⟨rfl,O2,c⟩)) fun c=>?_)
   have c:¬(pendingOf st2).size<=1:=c
   exact wpS_bind (U4 C inj O2 (Afw (n:=(pendingOf st2).size) (by exact Aou c)) fun st3 O3 e _=>Aif (wpS_pure (R1 _ _ ⟨rfl,O3,.inr (by exact Aov e p2 hx c)⟩)))
  case fin3=>exact fun c st2 h=>⟨h.1,h.2.1,by have:=h.2.2;exact Aow this h2⟩
  case post3 =>
   rintro ⟨_,_⟩ st2 ⟨rfl,O2,p2⟩
   refine wpS_pure (q st2 O2.bg ?_)
   have r:=O2.runs
   have rl:=U2 (pendingOf st2)
   cases hr:rn (pendingOf st2) with
   | nil =>
    rw [hr] at r
    have r:0=sZ.size:=r
    exact (Aox r h2).elim
   | cons z l =>
    rw [hr] at r rl
    refine Cl r fun r0 r1 r2 r3=>?_
    cases l with
    | nil =>
     have r3:0+z.2=sZ.size:=r3
     rw [Nat.zero_add] at r3
     rw [<- r3];exact r2
    | cons z' l' =>
     rw [List.length_cons,List.length_cons] at rl
     exact (Aoy rl p2).elim
end
theorem Afx{M:Model}{A:Around}{E:Value->Shared->Prop}{s:Shared}{κ:SortKind}{ρ:Keyed->Nat}{a₀:Array Keyed}{st:SortSt}(C:N1 M A s κ (·∈a₀.toList) ρ)(inj:(a₀.toList.map ρ).Nodup)(h2:2<=a₀.size){Q:Unit->SortSt->Prop}(B0:Bg κ a₀ st)(P0:pendingOf st=#[])(q:∀ st',Bg κ a₀ st'->Asc ρ (arrOf st') 0 a₀.size->Q () st'):wpS M A E s sortRuns' Q st:=Yd Acr (M,A,E,s,κ,ρ,a₀) C inj h2 B0 P0 q
end Mine.Internal
namespace Mine.Internal
open PySem PySem.W PyProof.Rows
section
variable{A:Around}{P:Amb}{xs:List Val}{ρ:Rho}{H:Hp}{s:Shared}
theorem Yo(vs:List Value)(h:vs.length < 2):(vs.toArray.zip vs.toArray).map (·.2)=List.toArray vs:=by
 apply Array.toList_inj.mp
 cases vs with
 | nil=>simp
 | cons v l =>
  cases l with
  | nil=>simp
  | cons _ _=>exact absurd h (by simp)
set_option backward.match.sparseCases true in
theorem Acs{a:Addr}{vs:List Value}{n:Nat}{P:PySem.Fin->Shared->Prop}{E:Value->Shared->Prop}{G:List Value->Prop}(ho:s.heap.get? a=some (Bp vs n))(h64:vs.length<=1000)
 (small:vs.length < 2->G vs)
 (ask:∀ h',(∀ b o,b≠a->s.heap.get? b=some o->h'.get? b=some o)->2<=vs.length->∀ (Q:SortKind->Shared->Prop),(∀ κ,(∀ st:SortSt,arrOf st=vs.toArray.zip vs.toArray->kindOf st=κ->pendingOf st=#[]->failedOf st=none->wpS (model cx.prog cx.w) A E { s with heap:=h' } sortRuns' (fun _ st'=>failedOf st'=none/\∃ ws,G ws/\ws.length=vs.length/\(arrOf st').map (·.2)=List.toArray ws) st)->Q κ { s with heap:=h' })->wpAny (model cx.prog cx.w) A (keyKind' vs.toArray) Q E { s with heap:=h' })
 (k:∀ h' ws c,G ws->(∀ b o,b≠a->s.heap.get? b=some o->h'.get? b=some o)->h'.get? a=some (Bp ws c)->P (.done (.ret .none)) { s with heap:=h' }) :
 wpAny (model cx.prog cx.w) A (Builtin.«list.sort» ⟨[.ref a],[]⟩) P E s:=by
 have ha:a < s.heap.objs.size:=Heap.lt_size ho
 have s1:=Heap.SameBut.update s.heap a (Obj.mapSeq fun _=>(#[]:Array Value))
 obtain ⟨e1,ho1⟩:∃ e1,(s.heap.update a (Obj.mapSeq fun _=>(#[]:Array Value))).get? a=some (Bp [] e1):=⟨_,get?_update_seq ho fun _=>#[]⟩
 have kp:∀ b o,b≠a->s.heap.get? b=some o->(((s.heap.update a (Obj.mapSeq fun _=>(#[]:Array Value))).push (seqObj "tuple" vs.toArray 0)).push (seqObj "list" #[] 0)).get? b=some o:=fun b o nb e=>Heap.get?_push_of_some _ (Heap.get?_push_of_some _ (s1.extBut b o nb e))
 have g1:(((s.heap.update a (Obj.mapSeq fun _=>(#[]:Array Value))).push (seqObj "tuple" vs.toArray 0)).push (seqObj "list" #[] 0)).get? a=some (Bp [] e1):=Heap.get?_push_of_some _ (Heap.get?_push_of_some _ ho1)
 generalize hh:((s.heap.update a (Obj.mapSeq fun _=>(#[]:Array Value))).push (seqObj "tuple" vs.toArray 0)).push (seqObj "list" #[] 0)=h1 at kp g1
 have last:∀ (ws:List Value) (st':SortSt),G ws->ws.length=vs.length->(arrOf st').map (·.2)=List.toArray ws->failedOf st'=none->wpAny (model cx.prog cx.w) A (do
  let sorted:=(arrOf st').map (·.2)
  let touched:=(<- seqEpoch a) != e1
  Builtin.List.listUpdate (.ref a) fun _=>sorted
  if let some e:=failedOf st' then rule "list.sort.comparison-raised";throw e
  if touched then rule "list.sort.modified";raiseError "ValueError" "list modified during sort"
  ret .none) P E { s with heap:=h1 }:=by
  intro ws st' hG hp hout hf
  rw [hout]
  dsimp only
  refine zB (seqEpoch_at g1 rfl ?_)
  have hsz:(List.toArray ws).size=vs.length:=by rw [List.size_toArray,hp]
  refine zB (listUpdate_at g1 rfl ?_ (Nat.zero_le _) (zC (zG hsz) (by rw [sizeLine_eq];exact Aoz hp hsz h64)))
  rw [hf]
  simp only [bne_self_eq_false,Bool.false_eq_true,if_false]
  refine zH (k _ ws _ hG (fun b o nb e=>(Heap.get?_update_other _ _ (Ne.symm nb)).trans (kp b o nb e)) (get?_update_seq g1 fun _=>List.toArray ws))
 rw [list_sort_plain]
 refine zB (listItems_at ho rfl ?_)
 refine zB (listUpdate_at ho rfl ?_ (by rw [List.size_toArray,sizeLine_eq];exact o22 h64) (Nat.zero_le _))
 refine zB (seqEpoch_at ho1 rfl ?_)
 refine zB (wpAny_newTuple ?_ (by show vs.length<=_;rw [sizeLine_eq];exact o22 h64))
 refine zB (wpAny_newList ?_ (Nat.zero_le _))
 refine wpAny_holding ?_
 show wpAny (model cx.prog cx.w) A _ P E { s with heap:=((s.heap.update a (Obj.mapSeq fun _=>(#[]:Array Value))).push (seqObj "tuple" vs.toArray 0)).push (seqObj "list" #[] 0) }
 rw [hh]
 dsimp only
 by_cases h2:vs.toArray.size < 2
 · rw [if_pos h2,if_pos h2]
   rw [List.size_toArray] at h2
   refine zB (zH ?_)
   refine zB (zH ?_)
   exact last vs _ (small h2) rfl (Yo vs h2) rfl
 · rw [if_neg h2,if_neg h2]
   have h2':2<=vs.length:=by rw [List.size_toArray] at h2;exact Ao0 h64 h2
   refine zB (ask h1 kp h2' _ fun κ hk=>?_)
   refine zB (zE (hk _ rfl rfl rfl rfl) ?_ fun _ _ e=>e)
   rintro ⟨⟨⟩,st'⟩ s' ⟨rfl,hf,ws,hG,hl,har⟩
   exact last ws st' hG hl har hf
theorem Act(R:Rel H ρ s){Q:Bool->Shared->Prop}{k:Nat}(hk:A.units+20+k < cLine){r:Bool}(hQ:Q r s)(ms:List Val):∀ (ks:List Val) (vs ws:List Value) (i:Nat),VRs ρ s.heap ms vs->VRs ρ s.heap ks ws->lts (Hb []) (Jr k) ms ks=some r ->
 (i=0->∃ x y ms' ks',ms=.int x :: ms'/\ks=.int y :: ks')->KatLex cx.prog cx.w A true (decide (i+ms.length < i+ks.length)) Q (vs.zip ws) i s:=by
 induction ms with
 | nil =>
  intro ks vs ws i q1 q2 h _
  cases q1
  cases ks with
  | nil =>
   cases h
   rw [decide_eq_false (Nat.lt_irrefl _)];exact hQ
  | cons y ks =>
   cases h
   have:decide (i+([]:List Val).length < i+(y :: ks).length)=true:=decide_eq_true (Nat.lt_add_of_pos_right (Nat.succ_pos _))
   rw [this];exact hQ
 | cons x ms ih =>
  intro ks vs ws i q1 q2 h hi
  cases q1 with
  | cons a1 q1 =>
   cases q2 with
   | nil =>
    cases h
    have:decide (i+(x :: ms).length < i+([]:List Val).length)=false:=decide_eq_false (Nat.not_lt.mpr (zM i _))
    rw [this];exact hQ
   | @cons y _ ks _ a2 q2 =>
    refine kat_cons ?_
    rcases Qd h with ⟨he,hl⟩ | ⟨he,hl⟩
    · refine Hh R a1 a2 (Qk he) (by exact Ai8 hk) ?_
      refine kat_yes ?_
      have:=ih ks _ _ (i+1) q1 q2 hl (fun q=>absurd q (Nat.succ_ne_zero _))
      rw [Nat.add_right_comm i 1,Nat.add_right_comm i 1] at this
      exact this
    · refine Hh R a1 a2 (Qk he) (by exact Ai8 hk) ?_
      refine kat_no ?_
      by_cases q:i=0
      · refine ex4 (hi q) fun u v _ _ zz=>Ac zz fun e1 e2=>?_
        cases e1;cases e2
        obtain ⟨t,hr0⟩:=a1.int_inv;refine Eq.symm hr0▸?_
        obtain ⟨t',hr1⟩:=a2.int_inv;refine Eq.symm hr1▸?_
        refine Eq.symm q▸?_
        have hr:r=decide (u < v):=by
         cases k with
         | zero=>cases hl
         | succ k=>exact (Option.some.inj hl).symm
        exact oneLt_int (by rw [<- hr];exact hQ)
      · rw [show (true && i == 0)=false by simp [q]]
        exact kat_one _ _ (Ua R k A _ _ _ _ r _ _ a1 a2 hl (by assumption) hQ)
theorem U5{h:Heap}:∀ {ms:List Val} {vs:List Value},VRs ρ h ms vs->(∀ x∈ms,∃ i r,x=.tup (.int i :: r))->∃ fs,KatTups h vs fs/\fs.length=vs.length/\∀ f∈fs,∃ i t,f=.int i t
 | _,_,.nil,_=>⟨[],trivial,rfl,fun f hf=>by cases hf⟩
 | _,_,.cons a r,hm=>by
  refine Ae fun G kG=>?_
  refine ex1 (U5 r fun x hx=>hm x (.tail _ hx)) fun fs zz=>Ap zz fun h1 h2 h3=>?_
  refine ex2 (hm _ (.head _)) fun i q zr2=>?_;subst zr2
  refine ex3 a.tup_inv fun p vs n zz=>Ap zz fun zr3 g r=>?_;subst zr3
  refine kG ?_
  cases r with
  | cons b r =>
   obtain ⟨t,rfl⟩:=b.int_inv
   refine ⟨.int i t :: fs,KatTups.cons g rfl rfl (by simp) h1,by simp [h2],fun f hf=>?_⟩
   cases hf with
   | head=>exact ⟨i,t,rfl⟩
   | tail _ hf=>exact h3 f hf
theorem Ml{α:Type}:∀ l:List α,l.zip l=l.map fun v=>(v,v)
 | []=>rfl
 | v :: l=>congrArg ((v,v) :: ·) (Ml l)
theorem J5{α:Type}{p q:α->Bool}{a:α}(h1:p a=false)(h2:q a=true):∀ {l:List α},(∀ x∈l,p x=true->q x=true)->a∈l->l.countP p < l.countP q
 | x :: l,h,ha=>by
  rw [List.countP_cons,List.countP_cons]
  have le:l.countP p<=l.countP q:=List.countP_mono_left fun x hx=>h x (.tail _ hx)
  rcases List.mem_cons.mp ha with e | ha
  · rw [<- e,h1,h2]
    simp only [Bool.false_eq_true,if_false,if_true]
    exact Ao1 le
  · have:=J5 h1 h2 (fun x hx=>h x (.tail _ hx)) ha
    cases z:p x with
    | false=>simp only [Bool.false_eq_true,if_false];exact Ao2 this
    | true=>rw [h x (.head _) z];simp only [if_true];exact Ao3 this
theorem Mm{lt:Val->Val->Bool}(O:Order xs lt){x y:Val}(hx:x∈xs)(hy:y∈xs):decide (xs.countP (fun z=>lt z x) < xs.countP fun z=>lt z y)=lt x y:=by
 cases h:lt x y with
 | true =>
  refine decide_eq_true (J5 (a:=x) ?_ h (fun z hz q=>?_) hx)
  · cases q:lt x x with
    | false=>rfl
    | true=>rw [O.asym x hx x hx q] at q;exact nomatch q
  · cases w:lt z y with
    | true=>rfl
    | false=>rw [O.tr x hx y hy z hz (O.asym x hx y hy h) w] at q;exact nomatch q
 | false =>
  refine decide_eq_false (Nat.not_lt.mpr (List.countP_mono_left fun z hz q=>?_))
  cases w:lt z x with
  | true=>rfl
  | false=>rw [O.tr y hy x hx z hz h w] at q;exact nomatch q
open Classical in
noncomputable def idx(vs:List Value)(v:Value):Nat:=if h:∃ i:Nat,vs[i]?=some v then h.choose else 0
theorem Afy{vs:List Value}{v:Value}{i:Nat}(h:vs[i]?=some v):vs[idx vs v]?=some v:=by
 have q:∃ i:Nat,vs[i]?=some v:=⟨i,h⟩
 unfold idx
 rw [dif_pos q]
 exact q.choose_spec
theorem VR.key_inj{h:Heap}{k k':Key}{v:Value}(x:VR ρ h (Ab k) v)(y:VR ρ h (Ab k') v):k=k':=by
 refine Ae fun G kG=>?_
 refine ex3 x.tup_inv fun p vs n zz=>Ap zz fun e g r=>?_
 refine ex3 y.tup_inv fun p' vs' n' zz=>Ap zz fun e' g' r'=>?_
 refine ex2 r.two_inv fun a b zz=>Ap zz fun e1 q1 q2=>?_
 refine ex2 r'.two_inv fun a' b' zz=>Ap zz fun e2 q3 q4=>?_
 refine kG ?_
 rw [e] at e'
 cases e'
 rw [g] at g'
 have ev:vs=vs':=by
  have:=congrArg Obj.data (Option.some.inj g')
  injection this with this _
  exact congrArg Array.toList this
 rw [e1,e2] at ev
 obtain ⟨t1,f1⟩:=q1.int_inv
 obtain ⟨t2,f2⟩:=q2.int_inv
 obtain ⟨t3,f3⟩:=q3.int_inv
 obtain ⟨t4,f4⟩:=q4.int_inv
 rw [f1,f2,f3,f4] at ev
 injection ev with ev1 ev2
 injection ev2 with ev2 _
 injection ev1 with ev1 _
 injection ev2 with ev2 _
 exact Prod.ext ev1 ev2
section
variable{h:Heap}{vs:List Value}{lt:Val->Val->Bool}
noncomputable def vat(xs:List Val)(vs:List Value)(v:Value):Val:=xs.getD (idx vs v) .none
theorem Aas(r:VRs ρ h xs vs)(kind:∀ x∈xs,∃ k:Key,x=Ab k){i:Nat}{v:Value}{x:Val}(hv:vs[i]?=some v)(hx:xs[i]?=some x):vat xs vs v=x:=by
 refine ex1 (r.get' (Afy hv)) fun y zz=>Ac zz fun hy q=>?_
 refine ex1 (r.get hx) fun w zz=>Ac zz fun hw q'=>?_
 rw [hv] at hw
 cases hw
 have e:vat xs vs v=y:=by unfold vat;rw [List.getD_eq_getElem?_getD,hy];rfl
 obtain ⟨k,e1⟩:=kind y (zF hy)
 obtain ⟨k',e2⟩:=kind x (zF hx)
 rw [e,e1,e2]
 rw [e1] at q
 rw [e2] at q'
 rw [q.key_inj q']
theorem Gz(r:VRs ρ h xs vs)(kind:∀ x∈xs,∃ k:Key,x=Ab k){v:Value}(hv:v∈vs):vat xs vs v∈xs/\VR ρ h (vat xs vs v) v:=by
 obtain ⟨i,hi⟩:=List.getElem?_of_mem hv
 refine ex1 (r.get' hi) fun x zz=>Ac zz fun hx q=>?_
 rw [Aas r kind hi hx]
 exact ⟨zF hx,q⟩
theorem U6(r:VRs ρ h xs vs)(kind:∀ x∈xs,∃ k:Key,x=Ab k):vs.map (vat xs vs)=xs:=by
 refine List.ext_getElem? fun i=>?_
 rw [List.getElem?_map]
 cases hv:vs[i]? with
 | none =>
  have:=List.getElem?_eq_none_iff.mp hv
  rw [List.getElem?_eq_none (by rw [r.length];exact this)];rfl
 | some v =>
  refine ex1 (r.get' hv) fun x zz=>Ac zz fun hx _=>?_
  rw [hx]
  exact congrArg some (Aas r kind hv hx)
theorem Acu(ws:List Value)(q:∀ v∈ws,VR ρ h (vat xs vs v) v):VRs ρ h (ws.map (vat xs vs)) ws:=by
 induction ws with
 | nil=>exact .nil
 | cons v ws ih=>exact .cons (q v (.head _)) (ih fun x hx=>q x (.tail _ hx))
theorem Pf(r:VRs ρ h xs vs)(kind:∀ x∈xs,∃ k:Key,x=Ab k)(O:Order xs lt){ws:List Value}(p:ws.Perm vs)(srt:ws.Pairwise fun v w=>lt (vat xs vs v) (vat xs vs w)=true):Hc xs (ws.map (vat xs vs)):=by
 refine ⟨(p.map _).trans (List.Perm.of_eq (U6 r kind)),List.pairwise_map.mpr (srt.imp_of_mem fun {v w} hv hw q=>?_)⟩
 have m1:=(Gz r kind (p.mem_iff.mp hv)).1
 have m2:=(Gz r kind (p.mem_iff.mp hw)).1
 rw [O.is _ m2 _ m1,O.asym _ m1 _ m2 q]
noncomputable def rk(lt:Val->Val->Bool)(xs:List Val)(vs:List Value)(y:Keyed):Nat:=xs.countP fun z=>lt z (vat xs vs y.1)
theorem Afz(r:VRs ρ h xs vs)(kind:∀ x∈xs,∃ k:Key,x=Ab k)(O:Order xs lt)(nd:xs.Nodup):((vs.toArray.zip vs.toArray).toList.map (rk lt xs vs)).Nodup:=by
 have e:(vs.toArray.zip vs.toArray).toList.map (rk lt xs vs)=xs.map fun x=>xs.countP fun z=>lt z x:=by
  have e1:(vs.toArray.zip vs.toArray).toList=vs.map fun v=>(v,v):=by
   rw [Array.toList_zip]
   exact Ml vs
  rw [e1,List.map_map]
  have:(rk lt xs vs ∘ fun v=>(v,v))=(fun x=>xs.countP fun z=>lt z x) ∘ vat xs vs:=rfl
  rw [this,<- List.map_map,U6 r kind]
 rw [e]
 refine List.pairwise_map.mpr (nd.imp_of_mem fun {x y} hx hy ne q=>ne (O.anti x hx y hy ?_ ?_))
 · rw [<- Mm O hx hy];exact decide_eq_false (by exact Ao4 q)
 · rw [<- Mm O hy hx];exact decide_eq_false (by exact Ao5 q)
end
theorem Pg{p:Addr}{H:Hp}{ρ:Rho}{s0:Shared}{ys:List Val}(hh:A.handled=none)(hu:A.units+100 < cLine)(R0:Rel H ρ s0)
 (hc:∀ (E:Value->Shared->Prop) (Q:List Value->Shared->Prop),(∀ h' tk xs vs,(∀ b o,s0.heap.get? b=some o->h'.get? b=some o)->VRs ρ h' xs vs->Fk xs=some ys->Q vs { s0 with heap:=h',toks:=tk })->wpAny (model cx.prog cx.w) A.in1 (collect (.ref p)) Q E s0) :
 A8 A (M.alloc (.list ys) H) (call (.builtin "sorted") [.ref p]) (Amb.vr) ρ s0:=by
 refine (show wpAny _ _ _ _ _ _ from ?_)
 refine Calls.call_function_entry kind_sorted plain_sorted entry_sorted (args_sorted1 _) ?_
 unfold Builtin.«sorted»
 refine zB (m:=checkCount "sorted" 1 1 _) (zH ?_)
 refine zB (hc _ _ fun h1' tk xs vs kp0 r hs=>?_)
 refine Ae fun G kG=>?_
 obtain ⟨⟨few,nd,kind,lt,O⟩,srt⟩:=Jt hs
 refine kG ?_
 have R:Rel H ρ { s0 with heap:=h1',toks:=tk }:=R0.more (tk:=tk) kp0
 have F0:Full ρ s0.heap ρ h1':=Full.more kp0
 generalize hs1:({ s0 with heap:=h1',toks:=tk }:Shared)=s at R
 have F1:Full ρ s0.heap ρ s.heap:=by rw [<- hs1];exact F0
 have r:VRs ρ s.heap xs vs:=by rw [<- hs1];exact r
 clear F0 kp0 hs1
 have len:=r.length
 have few':vs.length<=1000:=by exact Ao6 len few
 refine zB (wpAny_newList ?_ (by rw [sizeLine_eq];exact Ao7 len few))
 have hoL:(s.heap.push (seqObj "list" vs.toArray 0)).get? s.heap.objs.size=some (Bp vs 0):=Heap.get?_push_size _ rfl
 have keep:∀ b o,s.heap.get? b=some o->(s.heap.push (seqObj "list" vs.toArray 0)).get? b=some o:=fun b o q=>Heap.get?_push_of_some _ q
 show wpAny _ _ _ _ _ { s with heap:=s.heap.push (seqObj "list" vs.toArray 0) }
 generalize s.heap.push (seqObj "list" vs.toArray 0)=h0 at hoL keep
 have fr:s.heap.get? s.heap.objs.size=none:=Am _
 have ne:∀ {b:Addr} {o:Obj},s.heap.get? b=some o->b≠s.heap.objs.size:=fun {b o} e w=>by rw [w,fr] at e;exact nomatch e
 refine zB (wpAny_holding (wpAny_call_entry slot_list_sort ⟨_,hoL,rfl⟩ entry_list_sort ?body (args_list_sort _)))
 refine Acs (s:={ s with heap:=h0 }) (G:=fun ws=>ws.Perm vs/\ws.Pairwise fun v w=>lt (vat xs vs v) (vat xs vs w)=true) hoL few' (fun h2=>?_) (fun h' kp h2 Q kQ=>?_) fun h' ws c hG kp e=>?_
 · refine ⟨List.Perm.refl _,?_⟩
   cases vs with
   | nil=>exact .nil
   | cons v l =>
    cases l with
    | nil=>exact List.pairwise_singleton _ _
    | cons _ _=>exact absurd h2 (by simp)
 · have kp':∀ b o,s.heap.get? b=some o->h'.get? b=some o:=fun b o e=>kp b o (ne e) (keep b o e)
   have R':Rel H ρ { s with heap:=h' }:=R.more (tk:=s.toks) kp'
   have r':VRs ρ h' xs vs:=r.step (Full.more kp').step
   have hu2:A.in1.in1.units+30 < cLine:=by simp only [Around.in1_units];exact Ao8 hu
   refine Ae fun G kG=>?_
   obtain ⟨fs,hT,hl2,hfs⟩:=U5 r' fun x hx=>by obtain ⟨k,e⟩:=kind x hx;exact ⟨_,_,e⟩
   refine kG ?_
   refine kat_kind (s:={ s with heap:=h' }) (T:=.type "int") hT (by exact Ao9 h2 len hl2 few) (fun f hf=>?_) rfl ?_
   · obtain ⟨i,t,rfl⟩:=hfs f hf
     exact .now
   refine kQ _ fun st e1 e2 e3 e4=>?_
   have zl:(vs.toArray.zip vs.toArray).toList=vs.map fun v=>(v,v):=by
    rw [Array.toList_zip]
    exact Ml vs
   have zs:(vs.toArray.zip vs.toArray).size=vs.length:=by
    have:=congrArg List.length zl
    rw [List.length_map] at this
    exact this
   have C:N1 (model cx.prog cx.w) A.in1.in1 { s with heap:=h' } (tuples' true) (·∈(vs.toArray.zip vs.toArray).toList) (rk lt xs vs):=by
    intro x y hx hy Q E hQ
    rw [zl] at hx hy
    obtain ⟨v,hv,rfl⟩:=List.mem_map.mp hx
    obtain ⟨w,hw,rfl⟩:=List.mem_map.mp hy
    obtain ⟨m1,w1⟩:=Gz r' kind hv
    obtain ⟨m2,w2⟩:=Gz r' kind hw
    have hQ:Q (decide (xs.countP (fun z=>lt z (vat xs vs v)) < xs.countP fun z=>lt z (vat xs vs w))) { s with heap:=h' }:=hQ
    rw [Mm O m1 m2] at hQ
    have is:=O.is _ m1 _ m2
    refine Ae fun G kG=>?_
    obtain ⟨k1,hk1⟩:=kind _ m1
    obtain ⟨k2,hk2⟩:=kind _ m2
    refine kG ?_
    rw [hk1] at w1 is hQ
    rw [hk2] at w2 is hQ
    refine Ae fun G kG=>?_
    obtain ⟨p1,us,n1,ht,g1,q1⟩:=w1.tup_inv
    obtain ⟨p2,ws,n2,ht',g2,q2⟩:=w2.tup_inv
    refine kG ?_
    show wpAny _ _ (keyLt' (tuples' true) v w) _ _ _
    rw [ht,ht']
    refine kat_lt (s:={ s with heap:=h' }) g1 rfl g2 rfl ?_
    have kl:=Act (A:=A.in1.in1) R' (k:=5) (by exact Apa hu2) hQ _ _ _ _ 0 q1 q2 is (fun _=>⟨k1.1,k2.1,_,_,rfl,rfl⟩)
    rw [Nat.zero_add,Nat.zero_add,q1.length,q2.length] at kl
    simpa using kl
   refine wpS_mono (Afx C (Afz r' kind O nd) (by rw [zs];exact h2) (st:=st) ⟨e2,e4,by rw [e1]⟩ e3 fun st' B as=>?_) fun _ _ h=>h
   refine ⟨B.fail,(arrOf st').toList.map (·.2),⟨?_,?_⟩,?_,?_⟩
   · refine (B.perm.map _).trans (List.Perm.of_eq ?_)
     rw [zl,List.map_map]
     exact List.map_id _
   · refine List.pairwise_map.mpr ?_
     have sr:Srt (rk lt xs vs) (arrOf st').toList:=Ut fun i j hij hj=>as i j (Nat.zero_le _) hij (by rw [Nat.zero_add,<- B.size];exact hj)
     refine sr.imp_of_mem fun {x y} hx hy q=>?_
     have hx:=B.perm.mem_iff.mp hx
     have hy:=B.perm.mem_iff.mp hy
     rw [zl] at hx hy
     obtain ⟨v,hv,rfl⟩:=List.mem_map.mp hx
     obtain ⟨w,hw,rfl⟩:=List.mem_map.mp hy
     rw [<- Mm O (Gz r' kind hv).1 (Gz r' kind hw).1]
     exact decide_eq_true q
   · rw [List.length_map,Array.length_toList,B.size,zs]
   · apply Array.toList_inj.mp
     rw [Array.toList_map]
 · refine ⟨_,rfl,zH ⟨_,rfl,?_⟩⟩
   have kp':∀ b o,s.heap.get? b=some o->h'.get? b=some o:=fun b o e=>kp b o (ne e) (keep b o e)
   have eq:ys=ws.map (vat xs vs):=Option.some.inj (hs.symm.trans (Nh ⟨few,nd,kind,lt,O⟩ (Pf r kind O hG.1 hG.2)))
   have yl:ys.length<=sizeLine:=by rw [srt.1.length_eq,sizeLine_eq];exact Apb len few
   obtain ⟨F,R'⟩:=R.alloc (tk:=s.toks) (o:=.list ys) (p:=(s.heap.objs.size,s.heap.objs.size)) kp' ⟨fr,fr⟩
    (.list e (by rw [eq];exact Acu ws fun v hv=>(Gz r kind (hG.1.mem_iff.mp hv)).2.step (Full.alloc kp' ⟨fr,fr⟩).step) yl)
   refine ⟨_,F1.trans F,R',?_⟩
   rw [R.len]
   exact VR.loc (p:=(s.heap.objs.size,s.heap.objs.size)) (by rw [List.getElem?_append_right (zI _)];simp)
theorem Sf{a:Val}{v:Value}(hh:A.handled=none)(hu:A.units+100 < cLine)(h1:∀ ρ h,P.P ρ h->VR ρ h a v):Sim A P (call (.builtin "sorted") [v]) (bfV .sorted [a]) (Amb.vr):=by
 intro H ρ s0 R0 p
 have x:=h1 _ _ p
 cases x with
 | @loc l q hq =>
  show A8 A (match (Ej l H).bind Fk with
   | some ys=>M.alloc (.list ys) H
   | none=>.bad) _ _ ρ s0
  cases hs0:(Ej l H).bind Fk with
  | none=>trivial
  | some ys =>
   refine ex1 (Option.bind_eq_some_iff.mp hs0) fun xs zz=>Ac zz fun hx hs=>?_
   exact Pg hh hu R0 fun E Q k=>Pa hh R0 hq hx (by have:=(Jt hs).1.1;rw [sizeLine_eq];exact o22 this) fun h' tk vs kp r=>k h' tk xs vs kp r hs
 | _=>trivial
end
end Mine.Internal
namespace Mine.Internal
open PySem
theorem Bb{α β γ:Type}(m:M α)(f:α->M β)(g:β->M γ):(m.bnd f).bnd g=m.bnd fun x=>(f x).bnd g:=by
 funext H
 unfold M.bnd
 cases m H <;> rfl
section
variable{α β:Type}{A:Around}{P:Amb}{t:Sem α}{m:M β}{V:β->α->Amb}
theorem Sim.rule{tag:String}{k:Unit->Sem α}(x:Sim A P (k ()) m V):Sim A P (rule tag>>=k) m V:=x.pre fun _ _ _ h=>zB (wpAny_rule h)
theorem Sim.relse{vs keep:List Value}{k:Unit->Sem α}(x:Sim A P (k ()) m V):Sim A P (release vs keep>>=k) m V:=x.pre fun _ _ _ h=>zB (wpAny_release h)
theorem Sim.oper{t:Sem Value}{V:β->Value->Amb}{vs:List Value}(x:Sim A P t m V):Sim A P (operate vs t) m V:=x.pre fun _ _ _ h=>fun Γ p hΓ=>by
 rw [Sem.wp_operate];exact h Γ p hΓ
theorem Sim.of_eq{t':Sem α}(e:t'=t)(x:Sim A P t m V):Sim A P t' m V:=e▸x
theorem Sim.of_m{m':M β}(e:m'=m)(x:Sim A P t m V):Sim A P t m' V:=e▸x
noncomputable abbrev BV:Bool->Bool->Amb:=fun b b'=>Amb.prop (b'=b)
end
section
variable{A:Around}{P:Amb}{env:Env}{Φ:Funs}{Γ:Env'}
structure EOk(A:Around)(P:Amb)(Φ:Funs)(env:Env)(Γ:Env')(m:ME)(e:Expr):Prop where
 val:Sim A P (eval e env) (Aj cx.T Φ m Γ) (Amb.vr)
 tru:Sim A P (isTrue e env (eval e env)) ((Aj cx.T Φ m Γ).bnd C3) BV
theorem G0{a:Val}{v:Value}:Sim A (P.and (Amb.vr a v)) (truthy v) (C3 a) BV:=R7 fun _ _ p=>p.2
theorem EOk.of{m:ME}{e:Expr}(x:Sim A P (eval e env) (Aj cx.T Φ m Γ) (Amb.vr))(h:isTrue e env (eval e env)=(do let v<-eval e env;standAt e.pos;holding [v] (truthy v))):EOk A P Φ env Γ m e :=
 ⟨x,Sim.of_eq h (x.bind fun b a=>Sim.stand (Sim.holding G0))⟩
theorem Sim.and1{α β:Type}{t:Sem α}{m:M β}{V:β->α->Amb}{Q:Amb}(x:Sim A P t m V):Sim A (P.and Q) t m V:=x.weak fun _ _ p=>p.1
theorem U7{op:BOp}{o:Operator}{a b:ME}{l r:Expr}{pos:Pos}(ho:Agz op o=true)(x:EOk A P Φ env Γ a l)(y:EOk A P Φ env Γ b r):EOk A P Φ env Γ (.bin op a b) (.BinOp l o r pos):=by
 refine EOk.of ?_ rfl
 exact x.val.bind fun x1 v=>(Sim.holding y.val.and1).bind fun y1 w=>Sim.stand (Sim.oper (Ab9 ho (fun _ _ p=>p.1.2) fun _ _ p=>p.2))
theorem Acv{a:ME}{l:Expr}{pos:Pos}(x:EOk A P Φ env Γ a l):EOk A P Φ env Γ (.neg a) (.UnaryOp .USub l pos):=by
 refine EOk.of ?_ rfl
 exact x.val.bind fun x1 v=>Sim.stand (Sim.holding (Aca fun _ _ p=>p.2))
theorem Acw{a:ME}{l:Expr}{pos:Pos}(x:EOk A P Φ env Γ a l):EOk A P Φ env Γ (.not a) (.UnaryOp .Not l pos):=by
 refine ⟨?_,?_⟩
 · skip
   exact x.val.bind fun x1 v=>Sim.stand (Sim.holding (Acb fun _ _ p=>p.2))
 · rw [arm_isTrue_UnaryOp,Aew]
   refine Sim.of_m (m:=((Aj cx.T Φ a Γ).bnd C3).bnd fun b=>M.ret (!b)) ?_ (x.tru.bind fun b b'=>Sim.ret fun ρ h p=>?_)
   · rw [Bb,Bb]
     congr 1;funext x1
     rw [Bb]
     congr 1
   · have:b'=b:=p.2
     show (!b')=!b
     rw [this]
theorem Acx{α:Type}(m:M α):(m.bnd fun b=>M.ret b)=m:=by
 funext H
 unfold M.bnd
 cases m H <;> rfl
noncomputable def Xf(A:Around)(P:Amb)(Φ:Funs)(env:Env)(Γ:Env')(op:BoolOp)(pos:Pos)(m:ME)(ys:List Expr):Prop :=
 Sim A P (boolOp pos op (evalEach ys env)) (Aj cx.T Φ m Γ) (Amb.vr)/\Sim A P (allTrue op ys env) ((Aj cx.T Φ m Γ).bnd C3) BV
theorem Xf.one{op:BoolOp}{pos:Pos}{m:ME}{y:Expr}(x:EOk A P Φ env Γ m y):Xf A P Φ env Γ op pos m [y]:=by
 refine ⟨x.val,?_⟩
 refine Sim.of_m (Acx _).symm (x.tru.bind fun b b'=>?_)
 intro H ρ s R p
 have e:b'=b:=p.2
 subst e
 cases op <;> cases b' <;> exact zH ⟨ρ,Full.refl _ _,R,rfl⟩
theorem Xf.more{op:BoolOp}{pos:Pos}{m:ME}{y:Expr}{rest:List Expr}(x:EOk A P Φ env Γ m (.BoolOp op (y :: rest) pos)):Xf A P Φ env Γ op pos m (y :: rest):=⟨x.val,x.tru⟩
theorem E7{a:Val}{v:Value}:Sim A (P.and (Amb.vr a v)) (truthy v) (C3 a) (fun b b'=>Amb.prop (b'=b/\v=.bool b)):=by
 intro H ρ s R p
 have x:VR ρ s.heap a v:=p.2
 cases x with
 | bool b=>exact As R fun Q E k=>wpAny_truthy_bool (k _ s.toks ⟨rfl,rfl⟩)
 | _=>trivial
set_option backward.match.sparseCases true in
theorem Acy{a b:ME}{x y:Expr}{rest:List Expr}{pos:Pos}(hx:EOk A P Φ env Γ a x)(hy:Xf A P Φ env Γ .And pos b (y :: rest)):EOk A P Φ env Γ (.and a b) (.BoolOp .And (x :: y :: rest) pos):=by
 refine ⟨?_,?_⟩
 · skip
   refine hx.val.bind (f:=fun v=>do
    standAt pos
    let t<-holding [v] (truthy v)
    match BoolOp.And,t with
    | .And,false | .Or,true=>pure v
    | _,_=>boolOp pos .And (evalEach (y :: rest) env)) fun x1 v=>Sim.stand ((Sim.holding E7).bind fun b b'=>?_)
   intro H ρ s R p
   obtain ⟨e1,e2⟩:b'=b/\v=.bool b:=p.2
   subst e1 e2
   cases b' with
   | true=>exact hy.1 H ρ s R p.1.1
   | false=>exact zH ⟨ρ,Full.refl _ _,R,.bool _⟩
 · rw [arm_isTrue_BoolOp,arm_allTrue_cons,Aex]
   refine Sim.of_m (m:=((Aj cx.T Φ a Γ).bnd C3).bnd fun t=>match t with
    | true=>(Aj cx.T Φ b Γ).bnd C3
    | false=>M.ret false) ?_ (hx.tru.bind fun b b'=>?_)
   · rw [Bb,Bb]
     congr 1;funext x1
     rw [Bb]
     congr 1;funext t
     cases t <;> rfl
   · intro H ρ s R p
     have e:b'=b:=p.2
     refine e▸?_
     cases b' with
     | true=>exact hy.2 H ρ s R p.1
     | false=>exact zH ⟨ρ,Full.refl _ _,R,rfl⟩
set_option backward.match.sparseCases true in
theorem Af0{a b:ME}{x y:Expr}{rest:List Expr}{pos:Pos}(hx:EOk A P Φ env Γ a x)(hy:Xf A P Φ env Γ .Or pos b (y :: rest)):EOk A P Φ env Γ (.or a b) (.BoolOp .Or (x :: y :: rest) pos):=by
 refine ⟨?_,?_⟩
 · skip
   refine hx.val.bind (f:=fun v=>do
    standAt pos
    let t<-holding [v] (truthy v)
    match BoolOp.Or,t with
    | .And,false | .Or,true=>pure v
    | _,_=>boolOp pos .Or (evalEach (y :: rest) env)) fun x1 v=>Sim.stand ((Sim.holding E7).bind fun b b'=>?_)
   intro H ρ s R p
   obtain ⟨e1,e2⟩:b'=b/\v=.bool b:=p.2
   subst e1 e2
   cases b' with
   | false=>exact hy.1 H ρ s R p.1.1
   | true=>exact zH ⟨ρ,Full.refl _ _,R,.bool _⟩
 · rw [arm_isTrue_BoolOp,arm_allTrue_cons,Ahk]
   refine Sim.of_m (m:=((Aj cx.T Φ a Γ).bnd C3).bnd fun t=>match t with
    | true=>M.ret true
    | false=>(Aj cx.T Φ b Γ).bnd C3) ?_ (hx.tru.bind fun b b'=>?_)
   · rw [Bb,Bb]
     congr 1;funext x1
     rw [Bb]
     congr 1;funext t
     cases t <;> rfl
   · intro H ρ s R p
     have e:b'=b:=p.2
     subst e
     cases b' with
     | false=>exact hy.2 H ρ s R p.1
     | true=>exact zH ⟨ρ,Full.refl _ _,R,rfl⟩
theorem Ef{r:Expr}(h:Ec r=true)(op:CmpOp):behindInMarks op r=false:=by
 cases r <;> first | rfl | exact Al h
theorem U8(hu:A.units+100 < cLine){op:COp}{a b:ME}{l r:Expr}{pos:Pos}(hn:Ec r=true)(x:EOk A P Φ env Γ a l)(y:EOk A P Φ env Γ b r):EOk A P Φ env Γ (.cmp op a b) (.Compare l [Jb op] [r] pos):=by
 have V:∀ (x1 y1:Val) (v w:Value),Sim A ((P.and (Amb.vr x1 v)).and (Amb.vr y1 w)) (operate [v,w] (compareOp (Jb op) v w)) ((M.look (D2 op x1 y1)).bnd fun r=>M.ret (Val.bool r)) (Amb.vr) :=
  fun x1 y1 v w=>Sim.oper (Mb hu (fun _ _ p=>p.1.2) fun _ _ p=>p.2)
 refine ⟨?_,?_⟩
 · rw [eval_Compare1,markedBehindIn_of_false (Ef hn _)]
   exact x.val.bind fun x1 v=>(Sim.holding y.val.and1).bind fun y1 w=>Sim.stand (V x1 y1 v w)
 · rw [isTrue_Compare1,markedBehindIn_of_false (Ef hn _),Aey]
   rw [Bb]
   refine x.val.bind fun x1 v=>?_
   rw [Bb]
   exact (Sim.holding y.val.and1).bind fun y1 w=>Sim.stand ((V x1 y1 v w).bind fun r c=>Sim.holding G0)
theorem Yp(hu:A.units+100 < cLine){op1 op2:COp}{a b c:ME}{l m r:Expr}{pos:Pos}(hn:Ec r=true)(x:EOk A P Φ env Γ a l)(y:EOk A P Φ env Γ b m)(z:EOk A P Φ env Γ c r):EOk A P Φ env Γ (.cmp2 op1 op2 a b c) (.Compare l [Jb op1,Jb op2] [m,r] pos):=by
 have V1:∀ (x1 y1:Val) (v w:Value),Sim A ((P.and (Amb.vr x1 v)).and (Amb.vr y1 w)) (holding [v,w] (compareOp (Jb op1) v w)) ((M.look (D2 op1 x1 y1)).bnd fun r=>M.ret (Val.bool r)) (Amb.vr) :=
  fun x1 y1 v w=>Sim.holding (Mb hu (fun _ _ p=>p.1.2) fun _ _ p=>p.2)
 have e0:∀ (x1 y1:Val) (k:Bool->M Val),((M.look (D2 op1 x1 y1)).bnd k)=(((M.look (D2 op1 x1 y1)).bnd fun r=>M.ret (Val.bool r)).bnd fun v=>(C3 v).bnd k):=fun x1 y1 k=>by
  rw [Bb];rfl
 refine ⟨?_,?_⟩
 · rw [arm_eval_Compare,Tm]
   have em:markedEach [Jb op1,Jb op2] [m,r] (evalEach [m,r] env)=[eval m env,eval r env]:=by
    show [eval m env,markedBehindIn (Jb op2) r (eval r env)]=_
    rw [markedBehindIn_of_false (Ef hn _)]
   rw [em]
   refine x.val.bind (f:=fun left=>do
    let rv<-holding [left] (eval m env)
    standAt pos
    let c<-holding [left,rv] (compareOp (Jb op1) left rv)
    release [left,rv] [c]
    if<-holding [c,rv] (truthy c) then compareChain pos rv [Jb op2] [eval r env] else pure c) fun x1 v=>?_
   refine (Sim.holding y.val.and1).bind fun y1 w=>Sim.stand ?_
   rw [e0]
   refine (V1 x1 y1 v w).bind fun r1 c1=>Sim.relse ?_
   refine (Sim.holding E7).bind fun t t'=>?_
   intro H ρ s R p
   obtain ⟨e1,e2⟩:t'=t/\c1=.bool t:=p.2
   subst e1 e2
   cases t' with
   | false=>exact zH ⟨ρ,Full.refl _ _,R,.bool _⟩
   | true =>
    have W:Sim A (P.and (Amb.vr y1 w)) (compareChain pos w [Jb op2] [eval r env]) ((Aj cx.T Φ c Γ).bnd fun z=>(M.look (D2 op2 y1 z)).bnd fun r=>M.ret (Val.bool r)) (Amb.vr) :=
     (Sim.holding z.val.and1).bind fun z1 u=>Sim.stand (Sim.oper (Mb hu (fun _ _ p=>p.1.2) fun _ _ p=>p.2))
    exact W H ρ s R ⟨p.1.1.1.1,p.1.1.2⟩
 · rw [arm_isTrue_Compare,Tm]
   have em:markedEach [Jb op1,Jb op2] [m,r] (evalEach [m,r] env)=[eval m env,eval r env]:=by
    show [eval m env,markedBehindIn (Jb op2) r (eval r env)]=_
    rw [markedBehindIn_of_false (Ef hn _)]
   rw [em,Bb]
   refine x.val.bind (f:=fun left=>do
    let rv<-holding [left] (eval m env)
    standAt pos
    let c<-holding [left,rv] (compareOp (Jb op1) left rv)
    release [left,rv] [c]
    if<-holding [c,rv] (truthy c) then testChain pos rv [Jb op2] [eval r env] else pure false) fun x1 v=>?_
   rw [Bb]
   refine (Sim.holding y.val.and1).bind fun y1 w=>Sim.stand ?_
   rw [e0,Bb]
   refine (V1 x1 y1 v w).bind fun r1 c1=>Sim.relse ?_
   rw [Bb]
   refine (Sim.holding E7).bind fun t t'=>?_
   intro H ρ s R p
   obtain ⟨e1,e2⟩:t'=t/\c1=.bool t:=p.2
   subst e1 e2
   cases t' with
   | false=>exact zH ⟨ρ,Full.refl _ _,R,rfl⟩
   | true =>
    have W:Sim A (P.and (Amb.vr y1 w)) (testChain pos w [Jb op2] [eval r env]) (((Aj cx.T Φ c Γ).bnd fun z=>(M.look (D2 op2 y1 z)).bnd fun r=>M.ret (Val.bool r)).bnd C3) BV:=by
     rw [Bb]
     have V2:∀ (z1:Val) (u:Value),Sim A ((P.and (Amb.vr y1 w)).and (Amb.vr z1 u)) (operate [w,u] (compareOp (Jb op2) w u)) ((M.look (D2 op2 y1 z1)).bnd fun r=>M.ret (Val.bool r)) (Amb.vr) :=
      fun z1 u=>Sim.oper (Mb hu (fun _ _ p=>p.1.2) fun _ _ p=>p.2)
     exact (Sim.holding z.val.and1).bind fun z1 u=>Sim.stand ((V2 z1 u).bind fun _ _=>Sim.holding G0)
    exact W H ρ s R ⟨p.1.1.1.1,p.1.1.2⟩
end
theorem Fu{α:Type}{f:Hp->Option α}{H:Hp}{a:α}(h:f H=some a):M.look f H=.ok a H:=by unfold M.look;rw [h]
theorem Fv{α:Type}{f:Hp->Option α}{H:Hp}(h:f H=none):M.look f H=.bad:=by unfold M.look;rw [h]
theorem Acz(f:BF):((Gr f).1,Mc f)∈Gq:=by
 unfold Gq
 cases f <;> first
  | repeat (first | exact List.Mem.head _ | apply List.Mem.tail)
theorem Af1(t:Ty)(h:∀ c,t≠.cls c):(Np t,Xy t)∈Gq:=by
 unfold Gq
 cases t <;> first
  | exact absurd rfl (h _)
  | repeat (first | exact List.Mem.head _ | apply List.Mem.tail)
theorem U9:(("isinstance":Str),Value.builtin "isinstance")∈Gq:=by
 unfold Gq
 repeat (first | exact List.Mem.head _ | apply List.Mem.tail)
section
variable{A:Around}{P:Amb}{env:Env}{sc:Scope}{ns:List (Option Str)}{Γ:Env'}{Φ:Funs}{l:List Env}
theorem Atr{α:Type}{xs:List α}(h:xs.length=2):∃ a b,xs=[a,b]:=by
 match xs,h with
 | [a,b],_=>exact ⟨a,b,rfl⟩
theorem Sg(hh:A.handled=none)(hu:A.units+100 < cLine)(f:BF){ms:List Val}{vs:List Value}(hl:ms.length=(Gr f).2):Sim A (Amb.vrs ms vs) (call (Mc f) vs) (bfV f ms) (Amb.vr):=by
 have one:∀ {t:Sem Value} {m:Val->M Val},ms.length=1->(∀ (a:Val) (v:Value),ms=[a]->vs=[v]->Sim A (Amb.vr a v) t (bfV f ms) (Amb.vr))->Sim A (Amb.vrs ms vs) t (bfV f ms) (Amb.vr):=by
  intro t m h1 k H ρ s R p
  have p':VRs ρ s.heap ms vs:=p
  have hv:=p'.length
  obtain ⟨a,rfl⟩:=List.length_eq_one_iff.mp h1
  refine ex1 p'.one_inv fun v zz=>Ac zz fun zr1 x=>?_;subst zr1
  exact k a v rfl rfl H ρ s R x
 have two:∀ {t:Sem Value} {m:Val->M Val},ms.length=2->(∀ (a b:Val) (v w:Value),ms=[a,b]->vs=[v,w]->Sim A ((Amb.vr a v).and (Amb.vr b w)) t (bfV f ms) (Amb.vr))->Sim A (Amb.vrs ms vs) t (bfV f ms) (Amb.vr):=by
  intro t m h1 k H ρ s R p
  have p':VRs ρ s.heap ms vs:=p
  have hv:=p'.length
  refine ex2 (Atr h1) fun a b zr2=>?_;subst zr2
  refine ex2 p'.two_inv fun v w zz=>Ap zz fun zr2 x y=>?_;subst zr2
  exact k a b v w rfl rfl H ρ s R ⟨x,y⟩
 cases f with
 | len=>exact one (m:=fun _=>.bad) hl fun a v e1 e2=>by subst e1 e2;exact Acc fun _ _ p=>p
 | range=>exact one (m:=fun _=>.bad) hl fun a v e1 e2=>by subst e1 e2;exact Ub fun _ _ p=>p
 | list=>exact one (m:=fun _=>.bad) hl fun a v e1 e2=>by subst e1 e2;exact R8 hh fun _ _ p=>p
 | sorted=>exact one (m:=fun _=>.bad) hl fun a v e1 e2=>by subst e1 e2;exact Sf hh hu fun _ _ p=>p
 | min2=>exact two (m:=fun _=>.bad) hl fun a b v w e1 e2=>by subst e1 e2;exact X0 hh (fun _ _ p=>p.1) fun _ _ p=>p.2
 | max2=>exact two (m:=fun _=>.bad) hl fun a b v w e1 e2=>by subst e1 e2;exact X1 hh (fun _ _ p=>p.1) fun _ _ p=>p.2
theorem Af2(B:Base)(hh:A.handled=none)(hu:A.units+100 < cLine){f:BF}{x:Str}{xs:List Expr}{es:MEs}{np pos:Pos}(hg:Br sc x=true)(hx:(Gr f).1=x)(hl:(Gr f).2=xs.length)(hes:ckEs N sc ns es xs=true)
 (y:Sim A ((Amb.env env sc ns Γ).and (Amb.frames l)) (spliced (xs.map fun e=>(false,eval e env))) (evalEs cx.T Φ es Γ) (Amb.vrs)) :
 EOk A ((Amb.env env sc ns Γ).and (Amb.frames l)) Φ env Γ (.bf f es) (.Call (.Name x np) xs [] pos):=by
 refine EOk.of ?_ rfl
 refine ex2 B.ns fun mg mb zz=>Lx zz fun ng nb _ _ _ q=>?_
 intro H ρ s R p
 have q12:mg (Gr f).1=none/\mb (Gr f).1=some (Mc f):=q _ (Acz f)
 obtain ⟨q1,q2⟩:=q12
 rw [hx] at q1 q2
 first | rw [Ly] | rw [Qc] | rw [Jf] | rw [Xk] | rw [He] | rw [Xl]
 refine Gn.mono (Ft (f:=Mc f) (K:=fun vs Q E s=>wpAny (model cx.prog cx.w) A (call (Mc f) vs) Q E s) (fun e=>Gf (e▸hes)) R (y H ρ s R p) ?_ fun _=>Jg _) ?_
 · intro ms vs H1 ρ1 s1 e1 F1 R1 vrs
   exact Sg hh hu f (by rw [Cg hes e1,hl]) H1 ρ1 s1 R1 vrs
 · intro Q E h
   refine wpAny_Call_ofName (wp_glob R p.1.st hg ng nb (v:=Mc f) (.inr ⟨q1,q2⟩) ?_)
   rw [An pos (B8 hes)]
   have hq:(∃ id,Mc f=.builtin id)\/∃ T,Mc f=.type T:=by
    cases f <;> first | exact .inl ⟨_,rfl⟩ | exact .inr ⟨_,rfl⟩
   generalize Mc f=bv at h hq ⊢
   rcases hq with ⟨id,rfl⟩ | ⟨T,rfl⟩
   · exact Calls.callWith_builtin (Dg _) (zE h (fun a s₁ h₁=>by rw [h₁.1];exact h₁.2) fun _ _ q=>q)
   · exact PyProof.Rows.callWith_type (Dg _) (zE h (fun a s₁ h₁=>by rw [h₁.1];exact h₁.2) fun _ _ q=>q)
theorem Em(B:Base){t:Ty}(ht:∀ c,t≠.cls c){a:ME}{f y:Str}{x:Expr}{fp yp pos:Pos}(hg:Br sc f=true)(hf:f=("isinstance":Str))(hy:Br sc y=true)(hty:Np t=y)(hp:Ih x=true)
 (z:EOk A ((Amb.env env sc ns Γ).and (Amb.frames l)) Φ env Γ a x) :
 EOk A ((Amb.env env sc ns Γ).and (Amb.frames l)) Φ env Γ (.isinst a t) (.Call (.Name f fp) [x,.Name y yp] [] pos):=by
 refine EOk.of ?_ rfl
 refine ex2 B.ns fun mg mb zz=>Lx zz fun ng nb _ _ _ q=>?_
 intro H ρ s R p
 have q12:mg ("isinstance":Str)=none/\mb ("isinstance":Str)=some (.builtin "isinstance"):=q _ U9
 have q34:mg (Np t)=none/\mb (Np t)=some (Xy t):=q _ (Af1 t ht)
 obtain ⟨q1,q2⟩:=q12
 obtain ⟨q3,q4⟩:=q34
 rw [<- hf] at q1 q2
 rw [hty] at q3 q4
 first | rw [Ly] | rw [Qc] | rw [Jf] | rw [Xk] | rw [He] | rw [Xl]
 refine A8.bindK (K':=fun Q E s=>wpAny (model cx.prog cx.w) A (eval (.Call (.Name f fp) [x,.Name y yp] [] pos) env) Q E s) (K:=fun v Q E s=>wpAny (model cx.prog cx.w) A (eval (.Name y yp) env) (fun w s'=>wpAny (model cx.prog cx.w) A (call (.builtin "isinstance") [v,w]) Q E s') E s) (z.val H ρ s R p) ?_ ?_ ?_
 · intro b v H1 ρ1 s1 _ F1 R1 vr
   have e1:=(p.1.full F1).st
   have ht2:(Ba cx.T b t)=M.look (fun H=>(Qa H b).map fun k=>Val.bool (Aae t k)):=by
    cases t <;> first | rfl | exact absurd rfl (ht _)
   show Gn (Ba cx.T b t H1) _ _ ρ1 s1
   rw [ht2]
   cases ek:Qa H1 b with
   | none =>
    have:M.look (fun H=>(Qa H b).map fun k=>Val.bool (Aae t k)) H1=.bad:=Fv (by show Option.map _ (Qa H1 b)=none;rw [ek];rfl)
    rw [this];trivial
   | some k =>
    have:M.look (fun H=>(Qa H b).map fun k=>Val.bool (Aae t k)) H1=.ok (Val.bool (Aae t k)) H1:=Fu (by show Option.map _ (Qa H1 b)=_;rw [ek];rfl)
    rw [this]
    refine wp_glob R1 e1 hy ng nb (v:=Xy t) (.inr ⟨q3,q4⟩) ?_
    exact Afk R1 vr ek ht fun tk=>⟨ρ1,Full.refl _ _,R1.toks tk,.bool _⟩
 · exact fun v Q E Q' E' s h k1 k2=>zE h (fun _ _ h'=>zE h' k1 k2) k2
 · intro Q E h
   refine wpAny_Call_ofName (wp_glob R p.1.st hg ng nb (v:=.builtin "isinstance") (.inr ⟨q1,q2⟩) ?_)
   have pl:B6 env [x,.Name y yp]:=⟨Bq hp,Bq rfl,trivial⟩
   rw [An pos pl]
   refine Calls.callWith_builtin (Dg _) (Calls.evalArgs_plain (Calls.spliced_cons (zE h (fun v s' h'=>?_) fun _ _ q=>q)))
   exact Calls.spliced_cons (zE h' (fun w s'' h''=>Calls.spliced_nil h'') fun _ _ q=>q)
theorem Ac0(hu:A.units+100 < cLine){a i:ME}{v s:Expr}{pos:Pos}(x:EOk A P Φ env Γ a v)(y:EOk A P Φ env Γ i s):EOk A P Φ env Γ (.sub a i) (.Subscript v s pos):=by
 refine EOk.of ?_ rfl
 intro H ρ st R p
 refine A8.bindK (K':=fun Q E s'=>wpAny (model cx.prog cx.w) A (eval (.Subscript v s pos) env) Q E s') (K:=fun o Q E s'=>wpAny (model cx.prog cx.w) A (eval s env) (fun i s''=>wpAny (model cx.prog cx.w) A (PyProof.Rows.subscriptTail v s o i) Q E s'') E s') (x.val H ρ st R p) ?_ ?_ ?_
 · intro b o H1 ρ1 s1 _ F1 R1 vr
   refine A8.bindK (K':=fun Q E s'=>wpAny (model cx.prog cx.w) A (eval s env) (fun i s''=>wpAny (model cx.prog cx.w) A (PyProof.Rows.subscriptTail v s o i) Q E s'') E s') (K:=fun i Q E s'=>wpAny (model cx.prog cx.w) A (PyProof.Rows.subscriptTail v s o i) Q E s') (y.val H1 ρ1 s1 R1 (P.st _ _ _ _ p F1)) ?_ (fun _=>Jg _) fun Q E h=>h
   intro b2 i2 H2 ρ2 s2 _ F2 R2 vr2
   exact O0 (P:=(Amb.vr b o).and (Amb.vr b2 i2)) hu (fun _ _ p=>p.1) (fun _ _ p=>p.2) H2 ρ2 s2 R2 ⟨vr.step F2.step,vr2⟩
 · exact fun v Q E Q' E' s h k1 k2=>zE h (fun _ _ h'=>zE h' k1 k2) k2
 · exact fun Q E h=>PyProof.Rows.Subscript_ h
end
section
variable{A:Around}{Φ:Funs}{l:List Env}{env:Env}{sc:Scope}{ns:List (Option Str)}{Γ:Env'}{H:Hp}{ρ:Rho}{s:Shared}
theorem Ac1(B:Base)(R:Rel H ρ s){c dc:Nat}{v D:Value}(vr:VR ρ s.heap (.exc c) v)(hi:cx.T.isExc c=true)(hD:cx.cls[dc]?=some D){Q:Value->Shared->Prop}{E:Value->Shared->Prop}(q:∀ tk,Q (.bool (cx.T.sub c dc)) { s with toks:=tk }) :
 wpAny (model cx.prog cx.w) A (call (.builtin "isinstance") [v,D]) Q E s:=by
 refine ex1 (B.exc c hi) fun C zz=>Ac zz fun hC ok=>?_
 refine ex1 ok.isi fun K zz=>Ap zz fun X k m=>?_
 obtain ⟨m1,m2⟩:=m dc D hD
 cases vr with
 | @exc a o _ C' g no hC' x =>
  rw [hC] at hC';cases hC'
  refine Ap x fun x1 zn1 x3=>?_;obtain ⟨vs,x2⟩:=zn1
  have XK:K.In s.heap:=fun b ob e=>R.base b ob (X b ob e)
  refine T7 (K:=K) (D:=C) (ox:=o) k XK ⟨g,x1,by unfold PySem.W.notCls;rw [x2],by rw [x3];trivial⟩ (fun M h' X'=>(Nr m1 X').1) (fun M h' X'=>(Nr m1 X').2) (fun e=>?_) (fun M h' X'=>PySem.W.looks_mroIn X' m2) q
  have e':=beq_iff_eq.mp e
  subst e'
  have:=ok.is
  refine Ae fun G kG=>?_
  refine Xh ok.is fun nm qn Nn bs bm hdct sn sub ab col dd k0 k1 k2 zz=>ex3 zz fun k3 k5 mN zz=>Ep zz fun hCo hNs hin tl hsub=>?_
  refine kG ?_
  rw [hsub dc _ hD,List.contains_cons,beq_self_eq_true,Bool.true_or]
theorem Q6(B:Base){dc:Nat}{a:ME}{f y:Str}{x:Expr}{fp yp pos:Pos}(hg:Br sc f=true)(hf:f=("isinstance":Str))(hy:Br sc y=true)(hc:Dy N.clss y dc=true)(hp:Ih x=true)
 (z:EOk A ((Amb.env env sc ns Γ).and (Amb.frames l)) Φ env Γ a x) :
 EOk A ((Amb.env env sc ns Γ).and (Amb.frames l)) Φ env Γ (.isinst a (.cls dc)) (.Call (.Name f fp) [x,.Name y yp] [] pos):=by
 refine EOk.of ?_ rfl
 refine Ae fun G kG=>?_
 refine ex2 B.ns fun mg mb zz=>Lx zz fun ng nb _ _ qc q=>?_
 refine kG ?_
 intro H ρ s R p
 have q12:mg ("isinstance":Str)=none/\mb ("isinstance":Str)=some (.builtin "isinstance"):=q _ U9
 obtain ⟨q1,q2⟩:=q12
 rw [<- hf] at q1 q2
 refine ex1 (qc y dc (Cq hc)) fun D zz=>Ac zz fun hD hx=>?_
 refine A8.bindK (K':=fun Q E s=>wpAny (model cx.prog cx.w) A (eval (.Call (.Name f fp) [x,.Name y yp] [] pos) env) Q E s) (K:=fun v Q E s=>wpAny (model cx.prog cx.w) A (eval (.Name y yp) env) (fun w s'=>wpAny (model cx.prog cx.w) A (call (.builtin "isinstance") [v,w]) Q E s') E s) (z.val H ρ s R p) ?_ ?_ ?_
 · intro b v H1 ρ1 s1 _ F1 R1 vr
   have e1:=(p.1.full F1).st
   cases b with
   | exc c =>
    by_cases hi:cx.T.isExc c=true
    · have:Ba cx.T (.exc c) (.cls dc) H1=.ok (.bool (cx.T.sub c dc)) H1:=Fu (by show (if cx.T.isExc c=true then some (Val.bool (cx.T.sub c dc)) else none)=_;rw [if_pos hi])
      rw [this]
      refine wp_glob R1 e1 hy ng nb hx ?_
      exact Ac1 B R1 vr hi hD fun tk=>⟨ρ1,Full.refl _ _,R1.toks tk,.bool _⟩
    · have:Ba cx.T (.exc c) (.cls dc) H1=.bad:=Fv (by show (if cx.T.isExc c=true then some (Val.bool (cx.T.sub c dc)) else none)=_;rw [if_neg hi])
      rw [this];trivial
   | _=>trivial
 · exact fun v Q E Q' E' s h k1 k2=>zE h (fun _ _ h'=>zE h' k1 k2) k2
 · intro Q E h
   refine wpAny_Call_ofName (wp_glob R p.1.st hg ng nb (v:=.builtin "isinstance") (.inr ⟨q1,q2⟩) ?_)
   have pl:B6 env [x,.Name y yp]:=⟨Bq hp,Bq rfl,trivial⟩
   rw [An pos pl]
   refine Calls.callWith_builtin (Dg _) (Calls.evalArgs_plain (Calls.spliced_cons (zE h (fun v s' h'=>?_) fun _ _ q=>q)))
   exact Calls.spliced_cons (zE h' (fun w s'' h''=>Calls.spliced_nil h'') fun _ _ q=>q)
end
noncomputable def Fp(env:Env):List (Str × NameKind)->List (Str × Addr)->List (Str × Addr)
 | [],acc=>acc
 | (n,k) :: r,acc=>if k == .free then Fp env r ((n,(env.cells.lookup n).getD 0) :: acc) else Fp env r acc
theorem Hq{scope:Scope}{env:Env}(h:∀ p∈scope.names,p.2=.free->∃ c,env.cells.lookup p.1=some c):closureFor scope env=pure (Fp env scope.names []):=by
 have gen:∀ (names:List (Str × NameKind)) (acc:List (Str × Addr)),(∀ p∈names,p.2=.free->∃ c,env.cells.lookup p.1=some c) ->
  (forIn names acc fun x cs=>if (x.2 == .free)=true then (do let c<-cellOf env x.1;pure (ForInStep.yield ((x.1,c) :: cs))) else pure (ForInStep.yield cs):Sem _)=pure (Fp env names acc):=by
  intro names
  induction names with
  | nil=>intro acc _;rfl
  | cons p r ih =>
   intro acc hp
   obtain ⟨n,k⟩:=p
   rw [List.forIn_cons]
   unfold Fp
   by_cases q:(k == .free)=true
   · obtain ⟨c,hc⟩:=hp (n,k) (.head _) (by simpa using q)
     have hc':env.cells.lookup n=some c:=hc
     have e:cellOf env n=pure c:=by unfold cellOf;rw [hc']
     simp only [q,if_true,e,pure_bind,hc',Option.getD_some]
     exact ih _ fun p hp'=>hp p (.tail _ hp')
   · simp only [q,if_false,pure_bind]
     exact ih _ fun p hp'=>hp p (.tail _ hp')
 unfold closureFor
 have:=gen scope.names [] h
 simp only [bind_pure] at this ⊢
 rw [<- this]
set_option tactic.hygienic true in
theorem Ph{env:Env}:∀ {names:List (Str × NameKind)} {acc:List (Str × Addr)} {y:Str} {c:Addr},(∀ z d,acc.lookup z=some d->d=(env.cells.lookup z).getD 0)->(Fp env names acc).lookup y=some c->c=(env.cells.lookup y).getD 0
 | [],acc,y,c,ha,h=>ha y c h
 | (n,k) :: r,acc,y,c,ha,h=>by
  unfold Fp at h
  split at h
  · refine Ph (fun z d hd=>?_) h
    rw [List.lookup_cons] at hd
    split at hd
    · rename_i e
      have:z=n:=by simpa using e
      refine Eq.symm this▸?_
      cases hd;rfl
    · exact ha z d hd
  · exact Ph ha h
set_option tactic.hygienic true in
theorem Pi{env:Env}:∀ {names:List (Str × NameKind)} {acc:List (Str × Addr)} {y:Str},((y,NameKind.free)∈names\/(acc.lookup y).isSome=true)->((Fp env names acc).lookup y).isSome=true
 | [],_,_,h=>by
  rcases h with h | h
  · cases h
  · exact h
 | (n,k) :: r,acc,y,h=>by
  unfold Fp
  split
  · rename_i hk
    refine Pi ?_
    rcases h with h | h
    · rcases List.mem_cons.mp h with e | h
      · cases e;right;simp
      · exact .inl h
    · right
      rw [List.lookup_cons]
      split
      · rfl
      · exact h
  · rename_i hk
    refine Pi ?_
    rcases h with h | h
    · rcases List.mem_cons.mp h with e | h
      · cases e;simp at hk
      · exact .inl h
    · exact .inr h
set_option tactic.hygienic true in
theorem Pj{env:Env}:∀ {names:List (Str × NameKind)} {acc:List (Str × Addr)} {y:Str} {c:Addr},(Fp env names acc).lookup y=some c->(y,NameKind.free)∈names\/(acc.lookup y).isSome=true
 | [],_,_,_,h=>by right;have h':List.lookup _ _=_:=h;unfold Fp at h';rw [h'];rfl
 | (n,k) :: r,acc,y,c,h=>by
  unfold Fp at h
  split at h
  · rename_i hk
    rcases Pj h with h | h
    · exact .inl (.tail _ h)
    · rw [List.lookup_cons] at h
      split at h
      · rename_i e
        have:y=n:=by simpa using e
        refine this▸?_
        have:k=.free:=by simpa using hk
        subst this
        exact .inl (.head _)
      · exact .inr h
  · rcases Pj h with h | h
    · exact .inl (.tail _ h)
    · exact .inr h
theorem Cr:∀ (names:List (Str × NameKind)) (n:Nat) (acc:List (Str × Addr)),cellsFrom n names acc=cellsFrom n names []++acc
 | [],_,_=>rfl
 | (y,k) :: r,n,acc=>by
  unfold cellsFrom
  split
  · rw [Cr r (n+1) ((y,n) :: acc),Cr r (n+1) [(y,n)],List.append_assoc];rfl
  · exact Cr r n acc
set_option tactic.hygienic true in
theorem D0:∀ {names:List (Str × NameKind)} {n:Nat} {acc:List (Str × Addr)} {y:Str} {c:Addr},(y,c)∈cellsFrom n names acc->(y,NameKind.cell)∈names\/(y,c)∈acc
 | [],_,_,_,_,h=>.inr h
 | (z,k) :: r,n,acc,y,c,h=>by
  unfold cellsFrom at h
  split at h
  · rename_i hk
    rcases D0 h with h | h
    · exact .inl (.tail _ h)
    · rcases List.mem_cons.mp h with e | h
      · cases e
        have:k=.cell:=by simpa using hk
        refine this▸?_
        exact .inl (.head _)
      · exact .inr h
  · rcases D0 h with h | h
    · exact .inl (.tail _ h)
    · exact .inr h
theorem Gs{env:Env}:∀ (names:List (Str × NameKind)) (y:Str),(names.map fun (n,k)=>if (k == NameKind.free && env.scope.kind == .function && env.kindOf n == some .cell) then (n,NameKind.cell) else (n,k)).lookup y =
 (names.lookup y).map fun k=>if (k == NameKind.free && env.scope.kind == .function && env.kindOf y == some .cell)=true then NameKind.cell else k
 | [],_=>rfl
 | (n,k) :: r,y=>by
  have ih:=@Gs env r y
  show List.lookup y ((if (k == NameKind.free && env.scope.kind == .function && env.kindOf n == some .cell)=true then (n,NameKind.cell) else (n,k)) :: _)=_
  cases hx:y == n with
  | true =>
   have:y=n:=by simpa using hx
   refine this▸?_
   by_cases hc:(k == NameKind.free && env.scope.kind == .function && env.kindOf y == some .cell)=true
   · rw [if_pos hc]
     simp only [List.lookup_cons,beq_self_eq_true,Option.map_some]
     rw [if_pos hc]
   · rw [if_neg hc]
     simp only [List.lookup_cons,beq_self_eq_true,Option.map_some]
     rw [if_neg hc]
  | false =>
   by_cases hc:(k == NameKind.free && env.scope.kind == .function && env.kindOf n == some .cell)=true
   · rw [if_pos hc];simp only [List.lookup_cons,hx];exact ih
   · rw [if_neg hc];simp only [List.lookup_cons,hx];exact ih
noncomputable def E8(csc:Scope)(env:Env)(L:Addr):Env :=
 { scope:=relabel csc env,locals:=L,globals:=env.globals,cells:=cellsFrom (L+1) csc.names (Fp env csc.names []),qual:=env.qual,func:=none,code:=env.code,frame:=env.frame,builtins:=env.builtins }
noncomputable def Cs(csc:Scope)(h:Heap):Heap:=pushCells (h.push { cls:=.type "dict",data:=.dict #[] }) csc.names
theorem Jc{M:Model}{A:Around}{E:Value->Shared->Prop}{s:Shared}{env:Env}{csc:Scope}{Q:Env->Shared->Prop}(cl:List (Str × Addr))
 (h:Q (newEnv csc s.heap.objs.size env.globals (cellsFrom (s.heap.objs.size+1) csc.names cl) env.qual none .none (some env) builtinsNs) { s with heap:=Cs csc s.heap }) :
 wpAny M A (newFunctionEnv csc env.globals cl [] env.qual none .none (some env)) Q E s:=by
 simp only [newFunctionEnv,Option.isSome_some,if_true]
 refine zB (wpAny_alloc ?_)
 refine zB (wpAny_layCells _ (fun name kind cells=>by cases hkc:kind == NameKind.cell <;> simp [hkc]) _ _ _ _ ?_)
 rw [show ({ s with heap:=s.heap.push { cls:=.type "dict",data:=.dict #[] } }:Shared).heap.objs.size=s.heap.objs.size+1 from Heap.size_push ..]
 exact zB (zH (zH h))
section
variable{A:Around}{env:Env}{sc csc:Scope}{ns:List (Option Str)}{Γ:Env'}{H:Hp}{ρ:Rho}{s:Shared}{x:Str}
theorem Bu(h:Jz sc csc x=true):csc.kind=.function/\(csc.names.lookup x=some .local\/csc.names.lookup x=some .cell) /\
 (∀ p∈csc.names,csc.names.lookup p.1=some p.2/\(p.2=.free->sc.names.lookup p.1=some .cell\/sc.names.lookup p.1=some .free)) :=
 ⟨of_decide_eq_true (an1 h),Tt (an1 (an2 h)),fun p hp=>have q:=List.all_eq_true.mp (an2 (an2 h)) p hp
  ⟨of_decide_eq_true (an1 q),fun w=>((Bool.or_eq_true _ _).mp (an2 q)).elim (fun z=>absurd w (of_decide_eq_false (not_not z))) Tt⟩⟩
theorem Q7{ns:List (Option Str)}{i:Nat}{y:Str}(h:(Dz csc ns)[i]?=some (some y)):ns[i]?=some (some y)/\csc.names.lookup y=some .free:=by
 refine ex1 (Option.map_eq_some_iff.mp (List.getElem?_map.symm.trans h)) fun o zz=>Ac zz fun e h=>?_
 refine ex1 (Option.bind_eq_some_iff.mp h) fun z zz=>Ac zz fun e2 h=>?_
 obtain ⟨q,h⟩:=L9 h
 exact h▸⟨e.trans (congrArg some e2),q⟩
theorem Ch(csc:Scope)(h:Heap):∀ b o,h.get? b=some o->(Cs csc h).get? b=some o:=fun b o e=>pushCells_keeps _ _ b o (Heap.get?_push_of_some _ e)
theorem Yq(R:Rel H ρ s)(e0:EnvOk env sc ns Γ ρ s.heap)(hc:Jz sc csc x=true)(hΓ:Γ.length=ns.length) :
 EnvOk (E8 csc env s.heap.objs.size) csc (Dz csc ns++[some x]) (Γ++[none]) ρ (Cs csc s.heap) /\
 (∀ q,csc.names.lookup x=some .cell->(E8 csc env s.heap.objs.size).cells.lookup x=some q->s.heap.get? q=none):=by
 refine Ap (Bu hc) fun c1 c2 c3=>?_
 have F:Full ρ s.heap ρ (Cs csc s.heap):=Full.more (Ch csc s.heap)
 have lvB:E3 cx.h₀ s.heap:=fun b o e=>⟨o,R.base b o e⟩
 have ok:=cellsFrom_ok csc.names (s.heap.push { cls:=.type "dict",data:=.dict #[] }) (s.heap.objs.size+1) [] ⟨fun _ _ hm=>(nomatch hm),List.Pairwise.nil⟩ (by rw [Heap.size_push];exact zI _)
 rw [Heap.size_push] at ok
 have hcells:(E8 csc env s.heap.objs.size).cells=cellsFrom (s.heap.objs.size+1) csc.names []++Fp env csc.names []:=Cr _ _ _
 have hlook:∀ y c,(E8 csc env s.heap.objs.size).cells.lookup y=some c ->
  ((cellsFrom (s.heap.objs.size+1) csc.names []).lookup y=some c/\(Cs csc s.heap).IsCell c none/\s.heap.get? c=none/\csc.names.lookup y=some .cell) \/
  (env.cells.lookup y=some c/\csc.names.lookup y=some .free):=by
  intro y c h
  rw [hcells,List.lookup_append] at h
  cases q:(cellsFrom (s.heap.objs.size+1) csc.names []).lookup y with
  | some d =>
   rw [q] at h
   cases h
   have m:=ok.empty y c (mem_of_lookup q)
   refine .inl ⟨rfl,m.1,Ge (Nat.le_of_succ_le m.2),?_⟩
   rcases D0 (mem_of_lookup q) with w | w
   · exact (c3 _ w).1
   · exact nomatch w
  | none =>
   rw [q] at h
   have h':(Fp env csc.names []).lookup y=some c:=h
   have m:=Pj h'
   have mf:(y,NameKind.free)∈csc.names:=by
    rcases m with m | m
    · exact m
    · exact Al m
   obtain ⟨l1,l2⟩:=c3 _ mf
   obtain ⟨d,hd⟩:=e0.st.hasCell y (l2 rfl)
   have v:=Ph (acc:=[]) (fun z d h=>by simp at h) h'
   rw [hd] at v
   exact .inr ⟨by rw [hd,v];rfl,l1⟩
 have hfree:∀ y,csc.names.lookup y=some .free->∃ c,(E8 csc env s.heap.objs.size).cells.lookup y=some c/\env.cells.lookup y=some c:=by
  intro y hy
  have:=Pi (env:=env) (acc:=[]) (.inl (mem_of_lookup hy))
  obtain ⟨c,h⟩:=Option.isSome_iff_exists.mp this
  have hn:(cellsFrom (s.heap.objs.size+1) csc.names []).lookup y=none:=by
   cases q:(cellsFrom (s.heap.objs.size+1) csc.names []).lookup y with
   | none=>rfl
   | some d =>
    rcases D0 (mem_of_lookup q) with w | w
    · have:=(c3 _ w).1;rw [hy] at this;cases this
    · exact nomatch w
  have hl:(E8 csc env s.heap.objs.size).cells.lookup y=some c:=by rw [hcells,List.lookup_append,hn];exact h
  refine ⟨c,hl,?_⟩
  rcases hlook y c hl with ⟨_,_,_,w⟩ | ⟨w,_⟩
  · rw [hy] at w;exact nomatch w
  · exact w
 have hkind:∀ y,(E8 csc env s.heap.objs.size).kindOf y=(csc.names.lookup y).map fun k=>if (k == NameKind.free && env.scope.kind == .function && env.kindOf y == some .cell)=true then NameKind.cell else k:=fun y=>Gs csc.names y
 have locNs:(Cs csc s.heap).Ns s.heap.objs.size fun _=>none:=(Heap.Ns.new s.heap (.type "dict")).keeps (pushCells_keeps _ _)
 refine ⟨⟨⟨c1,e0.st.glob,e0.st.blt,fun y k hy=>?_,⟨_,locNs⟩,R.fresh_not (Am _),lvB.none (Am _),fun y c hy=>?_,fun y hy=>?_,fun y z c hy hz=>?_⟩,by unfold Dz;rw [List.length_append,List.length_append,List.length_map,hΓ];rfl,fun i y mv hi hm=>?_⟩,fun q hx hq=>?_⟩
 · rw [hkind,hy]
   cases k
   case free =>
    by_cases q:(NameKind.free == NameKind.free && env.scope.kind == .function && env.kindOf y == some .cell)=true
    · exact .inr (congrArg some (if_pos q))
    · exact .inl (congrArg some (if_neg q))
   all_goals first | rfl | trivial
 · rcases hlook y c hy with ⟨_,w1,w2,_⟩ | ⟨w,_⟩
   · exact ⟨⟨_,w1⟩,R.fresh_not w2,lvB.none w2⟩
   · refine Ap (e0.st.cells y c w) fun zn0 n b=>?_;obtain ⟨v,hv⟩:=zn0
     exact ⟨⟨v,Bj hv (F.data n)⟩,n,b⟩
 · rcases hy with hy | hy
   · rw [hcells,List.lookup_append]
     obtain ⟨c,h⟩:=Option.isSome_iff_exists.mp (Ev (n:=s.heap.objs.size+1) (acc:=[]) (.inl (mem_of_lookup hy)))
     exact ⟨c,by rw [h];rfl⟩
   · refine ex1 (hfree y hy) fun c zz=>Ac zz fun h _=>?_
     exact ⟨c,h⟩
 · rcases hlook y c hy with ⟨w0,w1,w2,_⟩ | ⟨w,_⟩ <;> rcases hlook z c hz with ⟨u0,u1,u2,_⟩ | ⟨u,_⟩
   · exact name_of_addr ok.apart (mem_of_lookup w0) (mem_of_lookup u0)
   · obtain ⟨⟨v,o,ho,_⟩,_⟩:=e0.st.cells z c u
     rw [w2] at ho;exact Ad ho
   · obtain ⟨⟨v,o,ho,_⟩,_⟩:=e0.st.cells y c w
     rw [u2] at ho;exact Ad ho
   · exact e0.st.apart y z c w u
 · by_cases lt:i < ns.length
   · rw [List.getElem?_append_left (by unfold Dz;rw [List.length_map];exact lt)] at hi
     rw [List.getElem?_append_left (by rw [hΓ];exact lt)] at hm
     obtain ⟨hn,hf⟩:=Q7 hi
     · · · refine Ae fun G kG=>?_
           refine ex1 (e0.vals i y mv hn hm) fun v zz=>Ac zz fun hv vr=>?_
           refine ex1 (hfree y hf) fun c zz=>Ac zz fun k1 k2=>?_
           refine kG ?_
           have ks:env.kindOf y=some .cell\/env.kindOf y=some .free:=by
            rcases (c3 _ (mem_of_lookup hf)).2 rfl with w | w
            · exact .inl (e0.st.kinds y _ w)
            · rcases e0.st.kinds y _ w with w | w
              · exact .inr w
              · exact .inl w
           have hcell:s.heap.IsCell c (some v):=by
            rcases hv with ⟨kd,_⟩ | ⟨_,c',hc',hv⟩
            · rcases ks with w | w <;> rw [w] at kd <;> cases kd
            · rw [k2] at hc';cases hc';exact hv
           refine ⟨v,.inr ⟨?_,c,k1,hcell.keeps (Ch csc s.heap)⟩,vr.step F.step⟩
           rw [hkind,hf]
           simp only [Option.map_some]
           split
           · exact .inl rfl
           · exact .inr rfl
   · exfalso
     rw [List.getElem?_append_right (by rw [hΓ];exact Aeo lt)] at hm
     cases q:i - Γ.length with
     | zero=>rw [q] at hm;simp at hm
     | succ n=>rw [q] at hm;simp at hm
 · rcases hlook x q hq with ⟨_,_,w,_⟩ | ⟨_,w⟩
   · exact w
   · rw [hx] at w;cases w
end
section
variable{A:Around}{env:Env}{sc:Scope}{ns:List (Option Str)}{Γ:Env'}{H:Hp}{ρ ρ':Rho}{s:Shared}
theorem Full.fresh{h h1 h2:Heap}{q:Addr}(F:Full ρ h ρ' h1)(hq:h.get? q=none)(hs:∀ b o,b≠q->h1.get? b=some o->h2.get? b=some o):Full ρ h ρ' h2:=by
 have ne:∀ b o,h.get? b=some o->b≠q:=fun b o e w=>by rw [w,hq] at e;exact Ad e
 refine ⟨F.grow,fun b o e n=>?_,fun b o e=>?_⟩
 · refine ex1 (F.keep b o e n) fun o' zz=>Ac zz fun e' u=>?_
   exact ⟨o',hs b o' (ne b o e) e',u⟩
 · obtain ⟨o',e'⟩:=F.live b o e
   exact ⟨o',hs b o' (ne b o e) e'⟩
theorem Full.addOwn{h h1:Heap}{p:Addr × Addr}(F:Full ρ h ρ' h1)(hp:h.get? p.1=none/\h.get? p.2=none):Full ρ h (ρ'++[p]) h1:=by
 refine ex1 F.grow fun e zz=>Ac zz fun hr0 he=>?_;refine Eq.symm hr0▸?_
 refine ⟨⟨e++[p],by rw [List.append_assoc],fun q hq=>?_⟩,F.keep,F.live⟩
 rcases List.mem_append.mp hq with hq | hq
 · exact he q hq
 · rw [List.mem_singleton.mp hq];exact hp
theorem EnvOk.but{h h':Heap}{q:Addr}(x:EnvOk env sc ns Γ ρ h)(hs:∀ b o,b≠q->h.get? b=some o->h'.get? b=some o)(n1:q≠env.locals)(n2:∀ y,env.cells.lookup y≠some q)(st:Step ρ h ρ h'):EnvOk env sc ns Γ ρ h':=by
 have kl:∀ o,h.get? env.locals=some o->∃ o',h'.get? env.locals=some o'/\o'.data=o.data:=fun o e=>⟨o,hs _ o (fun w=>n1 w.symm) e,rfl⟩
 have kc:∀ y c,env.cells.lookup y=some c->∀ o,h.get? c=some o->∃ o',h'.get? c=some o'/\o'.data=o.data:=fun y c hc o e=>⟨o,hs _ o (fun w=>n2 y (w▸hc)) e,rfl⟩
 obtain ⟨m,hm⟩:=x.st.loc
 refine ⟨⟨x.st.fn,x.st.glob,x.st.blt,x.st.kinds,⟨m,Bh hm kl⟩,x.st.locN,x.st.locB,fun y c hc=>?_,x.st.hasCell,x.st.apart⟩,x.len,fun i y mv hi hm=>?_⟩
 · refine Ap (x.st.cells y c hc) fun zn0 a b=>?_;obtain ⟨v,hv⟩:=zn0
   exact ⟨⟨v,Bj hv (kc y c hc)⟩,a,b⟩
 · refine ex1 (x.vals i y mv hi hm) fun v zz=>Ac zz fun hv r=>?_
   refine ⟨v,?_,r.step st⟩
   rcases hv with ⟨k,m,hm,e⟩ | ⟨k,c,hc,e⟩
   · exact .inl ⟨k,m,Bh hm kl,e⟩
   · exact .inr ⟨k,c,hc,Bj e (kc y c hc)⟩
theorem Rel.adopt(R:Rel H ρ s){D:Addr}{vs:List Value}{n:Nat}{xs:List Val}(e:s.heap.get? D=some (Bp vs n))(r:VRs ρ s.heap xs vs)(z:xs.length<=sizeLine)(no:¬Av ρ D)(nb:cx.h₀.get? D=none) :
 Rel (H++[.list xs]) (ρ++[(D,D)]) s/\VR (ρ++[(D,D)]) s.heap (.loc H.length) (.ref D):=by
 have notF:¬Fo (Bp vs n):=Ew.1
 have notC:∀ C,¬C8 (Bp vs n) C:=Ew.2
 have own:∀ b,¬Av ρ b->b≠D->¬Av (ρ++[(D,D)]) b:=fun b nb ne ⟨p,hp,h⟩=>by
  rcases List.mem_append.mp hp with hp | hp
  · exact nb ⟨p,hp,h⟩
  · rw [List.mem_singleton.mp hp] at h
    rcases h with h | h <;> exact ne h
 have st:Step ρ s.heap (ρ++[(D,D)]) s.heap:=⟨⟨_,rfl⟩,fun b o eb f nb=>⟨eb,own b nb fun w=>by rw [w,e] at eb;cases eb;exact notF f⟩,fun b o C eb c nb=>⟨o,eb,c,own b nb fun w=>by rw [w,e] at eb;cases eb;exact notC C c⟩⟩
 have nD:∀ p∈ρ,p.1≠D/\p.2≠D:=fun p hp=>⟨fun w=>no ⟨p,hp,.inl w.symm⟩,fun w=>no ⟨p,hp,.inr w.symm⟩⟩
 have at':∀ {i:Nat} {q:Addr × Addr},(ρ++[(D,D)])[i]?=some q->ρ[i]?=some q\/(i=ρ.length/\q=(D,D)):=by
  intro i q h
  by_cases lt:i < ρ.length
  · rw [List.getElem?_append_left lt] at h;exact .inl h
  · have hl':=(List.getElem?_eq_some_iff.mp h).1
    have le:i=ρ.length:=by rw [List.length_append] at hl';simp at hl';exact o1 hl' lt
    subst le
    rw [List.getElem?_append_right (zI _)] at h
    simp at h
    exact .inr ⟨rfl,h.symm⟩
 refine ⟨⟨by rw [List.length_append,List.length_append,R.len];rfl,fun l ob q hl hq=>?_,fun i j q r hij hi hj=>?_,fun q hq=>?_,R.base,R.sys,R.rest⟩,?_⟩
 · rcases at' hq with hq | ⟨rfl,rfl⟩
   · have lt:l < H.length:=by rw [R.len];exact (List.getElem?_eq_some_iff.mp hq).1
     rw [List.getElem?_append_left lt] at hl
     exact (R.objs l ob q hl hq).step st fun b ob _ e=>e
   · rw [<- R.len,List.getElem?_append_right (zI _)] at hl
     simp at hl
     subst hl
     exact .list e (r.step st) z
 · rcases at' hi with hi' | ⟨hi',eq⟩ <;> rcases at' hj with hj' | ⟨hj',er⟩
   · exact R.apart i j q r hij hi' hj'
   · have q:=nD _ (zF hi');rw [er];exact ⟨⟨q.1,q.1⟩,q.2,q.2⟩
   · have q:=nD _ (zF hj');rw [eq];exact ⟨⟨q.1.symm,q.2.symm⟩,q.1.symm,q.2.symm⟩
   · exact absurd (hi'.trans hj'.symm) hij
 · rcases List.mem_append.mp hq with hq | hq
   · exact R.new q hq
   · rw [List.mem_singleton.mp hq];exact ⟨nb,nb⟩
 · rw [R.len]
   exact VR.loc (p:=(D,D)) (by rw [List.getElem?_append_right (zI _)];simp)
structure CInv(ρ₁:Rho)(h₁:Heap)(D I:Addr)(cenv:Env)(csc:Scope)(ns':List (Option Str))(Γ:Env')(xs:List Val)(src:Option Nat)(i:Nat)(done:List Val)(H:Hp)(ρ:Rho)(s:Shared):Prop where
 full:Full ρ₁ h₁ ρ s.heap
 rel:Rel H ρ s
 env:∃ o,EnvOk cenv csc ns' (Γ++[o]) ρ s.heap
 it:ItOk xs I i ρ s.heap src
 acc:∃ vs n,s.heap.get? D=some (Bp vs n)/\VRs ρ s.heap done vs
 nD:¬Av ρ D
 nI:¬Av ρ I
variable{Φ:Funs}{l:List Env}{csc:Scope}{x:Str}{cond:MEo}{elt:ME}{ifs:List Expr}{e:Expr}
noncomputable def I5(T:Tab)(Φ:Funs)(cond:MEo)(elt:ME)(Γ:Env')(x:Val):M (Option Val):=(evalC T Φ cond (Γ++[some x])).bnd fun b=>match b with
 | true=>(Aj T Φ elt (Γ++[some x])).bnd fun y=>.ret (some y)
 | false=>.ret none
theorem Va{D:Addr}{vs:List Value}{n:Nat}{v:Value}{Q:Value->Shared->Prop}{E:Value->Shared->Prop}(g:s.heap.get? D=some (Bp vs n))(z:vs.length<=sizeLine)
 (k:∀ h' n',h'.get? D=some (Bp (vs++[v]) n')->Heap.SameBut D s.heap h'->Q .none { s with heap:=h' }):wpAny (model cx.prog cx.w) A (call (.builtin "list.append") [.ref D,v]) Q E s:=by
 refine call_meets F.slot_list_append ⟨_,g,rfl⟩ F.entry_list_append (F.args_list_append_2 _ _) (list_append D vs.toArray n v (by simpa using z)) ⟨g,?_⟩
 obtain ⟨n',e⟩:=J3 vs n (fun x=>x.push v)
 refine k _ n' ?_ (Heap.SameBut.update ..)
 rw [Heap.get?_update_self _ g (by skip;rfl),e]
 simp
theorem Vb{c:Hp->Bool}{f:Val->M (Option Val)}{H H':Hp}{r:List Val}(h:E5 c f [] H=.ok r H'):c H=true/\r=[]/\H=H':=by
 have h:(if c H=true then Res.ok [] H else .bad)=Res.ok r H':=h
 by_cases q:c H=true
 · rw [if_pos q] at h;cases h;exact ⟨q,rfl,rfl⟩
 · rw [if_neg q] at h;exact D4 h
theorem Sh{c:Hp->Bool}{f:Val->M (Option Val)}{m:Val}{xs:List Val}{H H':Hp}{rest:List Val}(h:E5 c f (m :: xs) H=.ok rest H') :
 c H=true/\∃ r H3,f m H=.ok r H3/\∃ rest',E5 c f xs H3=.ok rest' H'/\rest=(match r with | some y=>y :: rest' | none=>rest'):=by
 have h:(if c H=true then ((f m).bnd fun r=>(E5 c f xs).bnd fun ys=>M.ret (match r with | some y=>y :: ys | none=>ys)) H else .bad)=.ok rest H':=h
 by_cases q:c H=true
 · rw [if_pos q] at h
   refine ⟨q,?_⟩
   cases e1:f m H with
   | bad=>rw [C9 e1] at h;exact nomatch h
   | exc c H3=>rw [E4 e1] at h;exact Ku h
   | ok r H3 =>
    rw [Du e1] at h
    cases e2:E5 c f xs H3 with
    | bad=>rw [C9 e2] at h;exact nomatch h
    | exc c H4=>rw [E4 e2] at h;exact Ku h
    | ok rest' H4 =>
     rw [Du e2] at h
     cases h
     exact ⟨r,H3,rfl,rest',e2,rfl⟩
 · rw [if_neg q] at h;exact D4 h
theorem Vc{T:Tab}{m:Val}{r:Option Val}{H H3:Hp}(h:I5 T Φ cond elt Γ m H=.ok r H3) :
 ∃ b H4,evalC T Φ cond (Γ++[some m]) H=.ok b H4/\((b=false/\r=none/\H4=H3)\/(b=true/\∃ y,Aj T Φ elt (Γ++[some m]) H4=.ok y H3/\r=some y)):=by
 unfold I5 at h
 cases e3:evalC T Φ cond (Γ++[some m]) H with
 | bad=>rw [C9 e3] at h;exact D4 h
 | exc c H4=>rw [E4 e3] at h;exact Ku h
 | ok b H4 =>
  rw [Du e3] at h
  refine ⟨b,H4,rfl,?_⟩
  cases b with
  | false=>cases h;exact .inl ⟨rfl,rfl,rfl⟩
  | true =>
   refine .inr ⟨rfl,?_⟩
   dsimp only at h
   cases e4:Aj T Φ elt (Γ++[some m]) H4 with
   | bad=>rw [C9 e4] at h;exact D4 h
   | exc c H5=>rw [E4 e4] at h;exact Ku h
   | ok y H5=>rw [Du e4] at h;cases h;exact ⟨y,rfl,rfl⟩
theorem Vd{ns':List (Option Str)}(hl:ns'.length=ns.length+1)(hx':ns'[ns.length]?=some (some x)){ρ₁:Rho}{s₁:Shared}{D I:Addr}{cenv:Env}{xs ys:List Val}{src:Option Nat}{H₁ H₂:Hp}{px pos:Pos}{iter:Expr}{R:Result->Shared->Prop}(hh:A.handled=none)
 (hD:s₁.heap.get? D=none) (hI:s₁.heap.get? I=none) (hDI:D≠I) (hC:s₁.heap.get? cenv.locals=none) (hX:∀ q,csc.names.lookup x=some .cell->cenv.cells.lookup x=some q->s₁.heap.get? q=none)
 (hnd:∀ (i j:Nat) (y:Str),ns'[i]?=some (some y)->ns'[j]?=some (some y)->i=j) (hΓ:Γ.length=ns.length) (hxk:csc.names.lookup x=some .local\/csc.names.lookup x=some .cell)
 (fr:Aw l ρ₁ s₁.heap) (lvB:E3 cx.h₀ s₁.heap)
 (tests:∀ Γ':Env',Γ'.length=ns'.length->Sim A ((Amb.env cenv csc ns' Γ').and (Amb.frames l)) (forIn ifs true fun c r=>if r=true then do let ok<-isTrue c cenv (eval c cenv);pure (ForInStep.yield ok) else pure (ForInStep.yield r)) (evalC cx.T Φ cond Γ') BV)
 (elts:∀ Γ':Env',Γ'.length=ns'.length->Sim A ((Amb.env cenv csc ns' Γ').and (Amb.frames l)) (eval e cenv) (Aj cx.T Φ elt Γ') (Amb.vr))
 (hz:ys.length < sizeLine) {s:Shared} {ρ:Rho} (ci:CInv ρ₁ s₁.heap D I cenv csc ns' Γ xs src 0 [] H₁ ρ s) (hres:E5 (chk src xs) (I5 cx.T Φ cond elt Γ) xs H₁=.ok ys H₂)
 (k:∀ ρ' s',Full ρ₁ s₁.heap ρ' s'.heap->Rel (H₂++[.list ys]) ρ' s'->VR ρ' s'.heap (.loc H₂.length) (.ref D)->(∃ m,s'.heap.Ns cenv.locals m)->¬Av ρ' cenv.locals->R (.ok .next) s') :
 codeAny (model cx.prog cx.w) A (.compLoop (.ListComp e [⟨.Name x px,iter,ifs,0⟩] csc pos) 0 (.ref I) (.ref D) cenv) R s:=by
 obtain ⟨Inv,hInv⟩:∃ Inv:Nat->Shared->Prop,∀ n s,Inv n s↔∃ i done H ρ rest,CInv ρ₁ s₁.heap D I cenv csc ns' Γ xs src i done H ρ s/\i<=xs.length/\n=xs.length+1 - i /\
  E5 (chk src xs) (I5 cx.T Φ cond elt Γ) (xs.drop i) H=.ok rest H₂/\done++rest=ys:=⟨_,fun _ _=>Iff.rfl⟩
 refine codeAny_compLoop_tests Inv ?_ (xs.length+1) ((hInv _ _).mpr ⟨0,[],H₁,ρ,ys,ci,Nat.zero_le _,rfl,hres,rfl⟩)
 intro n s hin
 refine Ae fun G kG=>?_
 refine ex5 ((hInv _ _).mp hin) fun i done H ρ rest zz=>Ep zz fun ci hi hr0 hr hys=>?_
 refine ex2 ci.acc fun vs nn zz=>Ac zz fun gD rD=>?_
 obtain ⟨oo,eok⟩:=ci.env
 refine ex1 ci.it.obj fun oI zz=>Ac zz fun gI iO=>?_
 refine kG ?_
 cases hx:xs[i]? with
 | none =>
  have hlen:=List.getElem?_eq_none_iff.mp hx
  rw [List.drop_eq_nil_of_le hlen] at hr
  refine Ap (Vb hr) fun ck zr1 zr2=>?_;subst zr1;subst zr2
  rw [List.append_nil] at hys
  subst hys
  refine Qt hh ci.rel ci.it ck hx fun h' tk he=>?_
  have gD':h'.get? D=some (Bp vs nn):=he D _ hDI gD
  have st:Step ρ s.heap ρ h':=Step.ext gI he iO.not.1 iO.not.2
  have bI:cx.h₀.get? I=none:=lvB.none hI
  have R':Rel H ρ { s with heap:=h',toks:=tk }:=ci.rel.same st (fun b o ho eb=>he b o (fun w=>ci.nI (w▸ho)) eb) fun b o eb=>he b o (fun w=>by rw [w,bI] at eb;exact nomatch eb) (ci.rel.base b o eb)
  obtain ⟨R2,v2⟩:=Rel.adopt (s:={ s with heap:=h',toks:=tk }) R' gD' (rD.step st) (zL hz) ci.nD (lvB.none hD)
  have F2:Full ρ₁ s₁.heap ρ h':=ci.full.fresh hI he
  obtain ⟨m,hm⟩:=eok.st.loc
  have nIl:I≠cenv.locals:=eok.st.notLoc gI iO.notDict
  refine k _ _ (F2.addOwn ⟨hD,hD⟩) R2 v2 ⟨m,Bh hm fun o eo=>⟨o,he _ o (fun w=>nIl w.symm) eo,rfl⟩⟩ ?_
  intro ⟨p,hp,h⟩
  rcases List.mem_append.mp hp with hp | hp
  · exact eok.st.locN ⟨p,hp,h⟩
  · rw [List.mem_singleton.mp hp] at h
    have:cenv.locals=D:=by rcases h with h | h <;> exact h
    exact eok.st.notLoc gD (fun es k q=>by cases q) this.symm
 | some m =>
  have lt:i < xs.length:=(List.getElem?_eq_some_iff.mp hx).1
  have hdrop:xs.drop i=m :: xs.drop (i+1):=by
   rw [List.drop_eq_getElem_cons lt]
   rw [List.getElem?_eq_getElem lt] at hx
   cases hx;rfl
  rw [hdrop] at hr
  refine Ae fun G kG=>?_
  refine Ac (Sh hr) fun ck zz=>ex2 zz fun r H3 zz=>Ac zz fun e1 zz=>ex1 zz fun rest' zz=>Ac zz fun e2 hrest=>?_
  refine kG ?_
  refine N0 ci.rel ci.it ck hx fun v h' tk hs hlive kk=>?_
  obtain ⟨oI',gI'⟩:=hlive
  have st:Step ρ s.heap ρ h':=Step.but gI' gI hs iO.not.1 iO.not.2
  obtain ⟨vm,it'⟩:=kk st
  have bI:cx.h₀.get? I=none:=lvB.none hI
  have R':Rel H ρ { s with heap:=h',toks:=tk }:=ci.rel.but gI' gI hs iO.not.1 iO.not.2 ci.nI bI
  have ext:∀ b o,b≠I->s.heap.get? b=some o->h'.get? b=some o:=fun b o nb eb=>by rw [hs.2 b nb];exact eb
  have eok':EnvOk cenv csc ns' (Γ++[oo]) ρ h':=eok.but ext (eok.st.notLoc gI iO.notDict) (eok.st.notCell gI iO.notCell) st
  have F':Full ρ₁ s₁.heap ρ h':=ci.full.fresh hI ext
  have gD':h'.get? D=some (Bp vs nn):=ext D _ hDI gD
  have own:Fn csc ns' ns.length x=true:=(Bool.and_eq_true _ _).mpr ⟨(Bool.or_eq_true _ _).mpr (hxk.imp decide_eq_true decide_eq_true),decide_eq_true hx'⟩
  refine wpAny_assign_Name (D7 (s:={ s with heap:=h',toks:=tk }) (Γ:=Γ++[oo]) (by rw [List.length_append,hΓ,hl];rfl) hnd R' eok' own vm fun h2 tk2 FS R2 eok2 hq=>?_)
  refine Ae fun G kG=>?_
  refine ex2 hq fun q oq zz=>Ap zz fun hqd hqs gq=>?_
  have set_eq:(Γ++[oo]).set ns.length (some m)=Γ++[some m]:=by
   rw [<- hΓ,List.set_append_right _ _ (zI _),Nat.sub_self];rfl
  rw [set_eq] at eok2
  have qfresh:s₁.heap.get? q=none:=by
   rcases hqd with ⟨_,rfl⟩ | ⟨w1,w2⟩
   · exact hC
   · exact hX q w1 w2
  have ext2:∀ b o,b≠q->h'.get? b=some o->h2.get? b=some o:=fun b o nb eb=>by rw [hqs.2 b nb];exact eb
  have F2:Full ρ₁ s₁.heap ρ h2:=F'.fresh qfresh ext2
  have qD:D≠q:=by
   rcases hqd with ⟨_,rfl⟩ | ⟨w1,w2⟩
   · exact eok'.st.notLoc gD' (fun es k q=>by cases q)
   · exact fun w=>eok'.st.notCell gD' (fun v q=>by cases q) x (w▸w2)
  refine ex1 it'.obj fun oI2 zz=>Ac zz fun gI2 iO2=>?_
  refine kG ?_
  have qI:I≠q:=by
   rcases hqd with ⟨_,rfl⟩ | ⟨w1,w2⟩
   · exact eok'.st.notLoc gI2 iO2.notDict
   · exact fun w=>eok'.st.notCell gI2 iO2.notCell x (w▸w2)
  have St2:Step ρ h' ρ h2:=FullS.step eok'.st FS
  have it2:ItOk xs I (i+1) ρ h2 src:=it'.step St2 fun o eo=>ext2 I o qI eo
  have rD2:VRs ρ h2 done vs:=(rD.step st).step St2
  have gD2:h2.get? D=some (Bp vs nn):=ext2 D _ qD gD'
  have lenG:(Γ++[some m]).length=ns'.length:=by rw [List.length_append,hΓ,hl];rfl
  -- the tests
  refine ex2 (Vc e1) fun b H4 zz=>Ac zz fun e3 e4=>?_
  have T:=tests (Γ++[some m]) lenG H ρ { s with heap:=h2,toks:=tk2 } R2 ⟨eok2,fr.full F2⟩
  rw [e3] at T
  refine zE T (fun b' s3 ⟨ρ3,F3,R3,hb⟩=>?_) fun _ _ q=>q.elim
  have hb':b'=b:=hb
  refine Eq.symm hb'▸?_
  have F3':Full ρ₁ s₁.heap ρ3 s3.heap:=F2.trans F3
  have gD3:s3.heap.get? D=some (Bp vs nn):=F3.keep.exact gD2 ci.nD (fun es k q=>by cases q)
  have nD3:¬Av ρ3 D:=F3.grow.not ci.nD gD2
  refine ex1 it2.obj fun oI3 zz=>Ac zz fun gI3 iO3=>?_
  have it3:ItOk xs I (i+1) ρ3 s3.heap src:=it2.step F3.step fun o eo=>by
   rw [gI3] at eo;cases eo
   exact F3.keep.exact gI3 ci.nI iO3.notDict
  have nI3:¬Av ρ3 I:=F3.grow.not ci.nI gI3
  have rD3:VRs ρ3 s3.heap done vs:=rD2.step F3.step
  have eok3:EnvOk cenv csc ns' (Γ++[some m]) ρ3 s3.heap:=eok2.full F3
  rcases e4 with ⟨rfl,rfl,rfl⟩ | ⟨rfl,y,e4,rfl⟩
  · skip
    exact ⟨xs.length+1 - (i+1),by exact Ahc lt hr0,(hInv _ _).mpr ⟨i+1,done,H4,ρ3,rest',⟨F3',R3,⟨_,eok3⟩,it3,⟨vs,nn,gD3,rD3⟩,nD3,nI3⟩,lt,rfl,e2,by rw [<- hys,hrest]⟩⟩
  · skip
    have T2:=elts (Γ++[some m]) lenG H4 ρ3 s3 R3 ⟨eok3,fr.full F3'⟩
    rw [e4] at T2
    refine zE T2 (fun yv s4 ⟨ρ4,F4,R4,hy⟩=>?_) fun _ _ q=>q.elim
    have F4':Full ρ₁ s₁.heap ρ4 s4.heap:=F3'.trans F4
    have gD4:s4.heap.get? D=some (Bp vs nn):=F4.keep.exact gD3 nD3 (fun es k q=>by cases q)
    have nD4:¬Av ρ4 D:=F4.grow.not nD3 gD3
    refine ex1 it3.obj fun oI4 zz=>Ac zz fun gI4 iO4=>?_
    have it4:ItOk xs I (i+1) ρ4 s4.heap src:=it3.step F4.step fun o eo=>by
     rw [gI4] at eo;cases eo
     exact F4.keep.exact gI4 nI3 iO4.notDict
    have nI4:¬Av ρ4 I:=F4.grow.not nI3 gI4
    have rD4:VRs ρ4 s4.heap done vs:=rD3.step F4.step
    have eok4:=eok3.full F4
    have hlenD:vs.length < sizeLine:=by
     rw [<- rD.length]
     have t1:ys.length=done.length+rest.length:=by rw [<- hys,List.length_append]
     have t2:done.length < ys.length:=by rw [t1,hrest];simp
     exact Apc hz t2 t1
    refine Va gD4 (zL hlenD) fun h5 n5 gD5 hs5=>?_
    have St5:Step ρ4 s4.heap ρ4 h5:=Step.but gD5 gD4 hs5 Ew.1 Ew.2
    have ext5:∀ b o,b≠D->s4.heap.get? b=some o->h5.get? b=some o:=fun b o nb eb=>by rw [hs5.2 b nb];exact eb
    have R5:Rel H3 ρ4 { s4 with heap:=h5 }:=R4.but (tk:=s4.toks) gD5 gD4 hs5 Ew.1 Ew.2 nD4 (lvB.none hD)
    refine ⟨xs.length+1 - (i+1),by exact Ahc lt hr0,(hInv _ _).mpr ⟨i+1,done++[y],H3,ρ4,rest',⟨F4'.fresh hD ext5,R5,⟨_,eok4.but ext5 (eok4.st.notLoc gD4 (fun es k q=>by cases q)) (eok4.st.notCell gD4 (fun v q=>by cases q)) St5⟩,it4.step St5 fun o eo=>ext5 I o (fun w=>hDI w.symm) eo,⟨_,_,gD5,(rD4.step St5).append (.one (hy.step St5))⟩,nD4,nI4⟩,lt,rfl,e2,?_⟩⟩
    rw [<- hys,hrest,List.append_assoc];rfl
end
theorem Fw{i:Expr}(h:Ec i=true)(env:Env)(x:Value):foldedSetIterable i env x=pure x:=by
 cases i <;> first | rfl | exact Al h
section
variable{A:Around}{env:Env}{sc csc:Scope}{ns:List (Option Str)}{Γ:Env'}{H:Hp}{ρ ρ':Rho}{s:Shared}{Φ:Funs}{l:List Env}{x:Str}{cond:MEo}{elt:ME}{ifs:List Expr}{e:Expr}
theorem Rel.ext(R:Rel H ρ s){h':Heap}{tk:Nat}{a:Addr}{o:Obj}(e:s.heap.get? a=some o)(hs:Heap.ExtBut a s.heap h')(n1:¬Fo o)(n2:∀ C,¬C8 o C)(no:¬Av ρ a)(nb:cx.h₀.get? a=none) :
 Rel H ρ { s with heap:=h',toks:=tk } :=
 R.same (Step.ext e hs n1 n2) (fun b ob ho eb=>hs b ob (fun q=>no (q▸ho)) eb) fun b ob eb=>hs b ob (fun q=>by subst q;rw [nb] at eb;cases eb) (R.base b ob eb)
theorem Ve{xs:List Val}{I:Addr}{i:Nat}{src:Option Nat}(x:ItOk xs I i ρ s.heap src){Q:Value->Shared->Prop}{E:Value->Shared->Prop}(k:Q (.ref I) s):wpAny (model cx.prog cx.w) A (pyIter (.ref I)) Q E s:=by
 cases x with
 | list hp hi=>exact wpAny_pyIter_listiter hi k
 | tup e n r hi=>exact wpAny_pyIter_tupleiter hi k
 | rng e hi=>exact wpAny_pyIter_rangeiter hi k
structure CParts(A:Around)(Φ:Funs)(l:List Env)(csc:Scope)(ns':List (Option Str))(cond:MEo)(elt:ME)(ifs:List Expr)(e:Expr):Prop where
 tests:∀ (cenv:Env) (Γ':Env'),Γ'.length=ns'.length->Sim A ((Amb.env cenv csc ns' Γ').and (Amb.frames l)) (forIn ifs true fun c r=>if r=true then do let ok<-isTrue c cenv (eval c cenv);pure (ForInStep.yield ok) else pure (ForInStep.yield r)) (evalC cx.T Φ cond Γ') BV
 elts:∀ (cenv:Env) (Γ':Env'),Γ'.length=ns'.length->Sim A ((Amb.env cenv csc ns' Γ').and (Amb.frames l)) (eval e cenv) (Aj cx.T Φ elt Γ') (Amb.vr)
theorem Fx(hnd:∀ (i j:Nat) (y:Str),ns[i]?=some (some y)->ns[j]?=some (some y)->i=j)(hx:csc.names.lookup x=some .local\/csc.names.lookup x=some .cell) :
 ∀ (i j:Nat) (y:Str),(Dz csc ns++[some x])[i]?=some (some y)->(Dz csc ns++[some x])[j]?=some (some y)->i=j:=by
 have lenN:(Dz csc ns).length=ns.length:=by unfold Dz;rw [List.length_map]
 have at':∀ (i:Nat) (y:Str),(Dz csc ns++[some x])[i]?=some (some y)->(ns[i]?=some (some y)/\csc.names.lookup y=some .free)\/(i=ns.length/\y=x):=by
  intro i y h
  by_cases lt:i < ns.length
  · rw [List.getElem?_append_left (by rw [lenN];exact lt)] at h
    exact .inl (Q7 h)
  · rw [List.getElem?_append_right (by rw [lenN];exact Aeo lt),lenN] at h
    cases q:i - ns.length with
    | zero=>rw [q] at h;simp at h;exact .inr ⟨by exact Ai9 q lt,h.symm⟩
    | succ n=>rw [q] at h;simp at h
 intro i j y hi hj
 rcases at' i y hi with ⟨a1,a2⟩ | ⟨a1,a2⟩ <;> rcases at' j y hj with ⟨b1,b2⟩ | ⟨b1,b2⟩
 · exact hnd i j y a1 b1
 · subst b2;rcases hx with w | w <;> rw [w] at a2 <;> cases a2
 · subst a2;rcases hx with w | w <;> rw [w] at b2 <;> cases b2
 · exact Apd a1 b1
theorem Lg(hh:A.handled=none)(hc:Jz sc csc x=true)(hnd:∀ (i j:Nat) (y:Str),ns[i]?=some (some y)->ns[j]?=some (some y)->i=j)(hΓ:Γ.length=ns.length)
 (pt:CParts A Φ l csc (Dz csc ns++[some x]) cond elt ifs e)
 {v:Val} {xv:Value} {xs ys:List Val} {src:Option Nat} {H₂:Hp} {px pos:Pos} {iter:Expr} {RR:Value->Addr->Result->Shared->Prop} {E:Value->Shared->Prop}
 (R:Rel H ρ s) (e0:EnvOk env sc ns Γ ρ s.heap) (fr:Aw l ρ s.heap) (vr:VR ρ s.heap v xv) (hit:C0 v H=some (xs,src)) (hres:E5 (chk src xs) (I5 cx.T Φ cond elt Γ) xs H=.ok ys H₂) (hz:ys.length < sizeLine)
 (k:∀ D C ρ' s',Full ρ s.heap ρ' s'.heap->Rel (H₂++[.list ys]) ρ' s'->VR ρ' s'.heap (.loc H₂.length) (.ref D)->(∃ m,s'.heap.Ns C m)->¬Av ρ' C->s.heap.get? C=none->RR (.ref D) C (.ok .next) s') :
 wpAny (model cx.prog cx.w) A (pyIter xv) (fun it s₂=>wpAny (model cx.prog cx.w) A (newList []) (fun acc s₃=>wpAny (model cx.prog cx.w) A (newFunctionEnv csc env.globals (Fp env csc.names []) [] env.qual none .none (some env)) (fun cenv s₄ =>
  codeAny (model cx.prog cx.w) A (.compStart (.ListComp e [⟨.Name x px,iter,ifs,0⟩] csc pos) 0 it acc { cenv with scope:=relabel csc env }) (RR acc cenv.locals) s₄) E s₃) E s₂) E s:=by
 refine Ap (Bu hc) fun c1 c2 c3=>?_
 have lvB:E3 cx.h₀ s.heap:=fun b o e=>⟨o,R.base b o e⟩
 refine Lb R vr hit fun o go it0=>?_
 refine wpAny_newObj_type ?_
 refine Jc _ ?_
 -- the three heaps
 generalize hs1:({ s with heap:=s.heap.push o }:Shared)=s1 at it0
 have h1:s1.heap=s.heap.push o:=by rw [<- hs1]
 have F1:Full ρ s.heap ρ s1.heap:=by rw [h1];exact Full.push _ _ _
 have R1:Rel H ρ s1:=by rw [<- hs1];exact R.push o s.toks
 generalize hs2:({ s1 with heap:=s1.heap.push (Bp [] 0) }:Shared)=s2
 have h2:s2.heap=s1.heap.push (Bp [] 0):=by rw [<- hs2]
 have F2:Full ρ s1.heap ρ s2.heap:=by rw [h2];exact Full.push _ _ _
 have R2:Rel H ρ s2:=by rw [<- hs2];exact R1.push (Bp [] 0) s1.toks
 have z1:s1.heap.objs.size=s.heap.objs.size+1:=by rw [h1,Heap.size_push]
 have z2:s2.heap.objs.size=s.heap.objs.size+2:=by rw [h2,Heap.size_push,z1]
 have F12:Full ρ s.heap ρ s2.heap:=F1.trans F2
 have e2:EnvOk env sc ns Γ ρ s2.heap:=e0.full F12
 obtain ⟨ce,cf⟩:=Yq R2 e2 hc hΓ
 have F3:Full ρ s2.heap ρ (Cs csc s2.heap):=Full.more (Ch csc s2.heap)
 have R3:Rel H ρ { s2 with heap:=Cs csc s2.heap }:=R2.more (tk:=s2.toks) (Ch csc s2.heap)
 have hDn:s.heap.get? s1.heap.objs.size=none:=Ge (by rw [z1];exact Nat.le_succ _)
 have hIn:s.heap.get? s.heap.objs.size=none:=Am _
 have hCn:s.heap.get? s2.heap.objs.size=none:=Ge (by rw [z2];exact zM _ _)
 have gD2:s2.heap.get? s1.heap.objs.size=some (Bp [] 0):=by rw [h2];exact Heap.get?_push_size _ rfl
 have it1:ItOk xs s.heap.objs.size 0 ρ s1.heap src:=by rw [h1];exact it0
 have go1:s1.heap.get? s.heap.objs.size=some o:=by rw [h1];exact go
 have it3:ItOk xs s.heap.objs.size 0 ρ (Cs csc s2.heap) src:=(it1.step F2.step fun o' eo=>by rw [h2];exact Heap.get?_push_of_some _ eo).step F3.step (Ch csc s2.heap _)
 have ci:CInv ρ s.heap s1.heap.objs.size s.heap.objs.size (E8 csc env s2.heap.objs.size) csc (Dz csc ns++[some x]) Γ xs src 0 [] H ρ { s2 with heap:=Cs csc s2.heap } :=
  ⟨F12.trans F3,R3,⟨none,ce⟩,it3,⟨[],0,Ch csc s2.heap _ _ gD2,.nil⟩,R.fresh_not hDn,R.fresh_not hIn⟩
 have loop:codeAny (model cx.prog cx.w) A (.compLoop (.ListComp e [⟨.Name x px,iter,ifs,0⟩] csc pos) 0 (.ref s.heap.objs.size) (.ref s1.heap.objs.size) (E8 csc env s2.heap.objs.size)) (RR (.ref s1.heap.objs.size) s2.heap.objs.size) { s2 with heap:=Cs csc s2.heap }:=by
  have lenN:(Dz csc ns).length=ns.length:=by unfold Dz;rw [List.length_map]
  refine Vd (by rw [List.length_append,lenN];rfl) (by rw [List.getElem?_append_right (by rw [lenN];exact zI _),lenN,Nat.sub_self];rfl) (s₁:=s) (ρ₁:=ρ) (l:=l) hh hDn hIn (by rw [z1];exact Nat.succ_ne_self _) hCn (fun q w1 w2=>?_) (Fx hnd c2) hΓ c2 fr lvB (fun Γ' h'=>pt.tests _ Γ' h') (fun Γ' h'=>pt.elts _ Γ' h') hz ci hres fun ρ' s' F' R' v' m' n'=>?_
  · have:=cf q w1 w2
    cases g:s.heap.get? q with
    | none=>rfl
    | some ob =>
     obtain ⟨o',eo'⟩:=F12.live q ob g
     rw [this] at eo';exact Ad eo'
  · exact k _ _ ρ' s' F' R' v' m' n' hCn
 have key:=codeAny_compStart_list loop (Ve (ρ:=ρ) (s:={ s2 with heap:=Cs csc s2.heap }) it3 loop)
 refine Eq.symm hs2▸?_
 exact key
theorem Hr{E E':Value->Shared->Prop}{use:Option (Value->Sem Unit)}{Q Q':Value->Shared->Prop}{acc:Value}{C:Addr}{r:Result}{s':Shared}{M:Model}(h:compPost M A E use Q acc C r s')(k1:∀ a s,Q a s->Q' a s)(k2:∀ e s,E e s->E' e s):compPost M A E' use Q' acc C r s':=by
 unfold compPost at h ⊢
 cases r with
 | ok f =>
  cases use with
  | none=>refine ex1 h fun m zz=>Ac zz fun hm h=>?_;exact ⟨m,hm,fun h' hs=>k1 _ _ (h h' hs)⟩
  | some u=>exact zE h (fun _ s'' ⟨m,hm,h⟩=>⟨m,hm,fun h' hs=>k1 _ _ (h h' hs)⟩) k2
 | error x =>
  cases use with
  | none=>refine ex1 h fun m zz=>Ac zz fun hm h=>?_;exact ⟨m,hm,fun h' hs c hc=>zE (h h' hs c hc) (fun _ _ q=>q) k2⟩
  | some u=>refine ex1 h fun m zz=>Ac zz fun hm h=>?_;exact ⟨m,hm,fun h' hs c hc=>zE (h h' hs c hc) (fun _ _ q=>q) k2⟩
theorem Yr{α:Type}{m:M α}{H H':Hp}{a:α}(h:M.quiet m H=.ok a H'):m H=.ok a H':=by
 delta M.quiet at h
 cases e:m H with
 | exc c K=>rw [e] at h;exact D4 h
 | _=>rw [e] at h;exact h
theorem Vf{α:Type}{m:M α}{H H':Hp}{c:Nat}(h:M.quiet m H=.exc c H'):False:=by
 delta M.quiet at h
 cases e:m H with
 | _=>rw [e] at h;cases h
noncomputable def Jk(T:Tab)(Φ:Funs)(cond:MEo)(elt:ME)(Γ:Env')(v:Val):M Val:=(M.look (C0 v)).bnd fun p =>
 (M.quiet (E5 (chk p.2 p.1) (I5 T Φ cond elt Γ) p.1)).bnd fun ys=>if ys.length < lid then M.alloc (.list ys) else .bad
theorem N3(T:Tab)(Φ:Funs)(cond:MEo)(elt it:ME)(Γ:Env'):Aj T Φ (.comp elt it cond) Γ=(Aj T Φ it Γ).bnd (Jk T Φ cond elt Γ):=by
 rfl
theorem Gu{T:Tab}{Φ:Funs}{cond:MEo}{elt:ME}{Γ:Env'}{v:Val}{H:Hp}:Jk T Φ cond elt Γ v H=.bad \/
 ∃ xs src ys H₂,C0 v H=some (xs,src)/\E5 (chk src xs) (I5 T Φ cond elt Γ) xs H=.ok ys H₂/\ys.length < sizeLine/\Jk T Φ cond elt Γ v H=.ok (.loc H₂.length) (H₂++[.list ys]):=by
 unfold Jk
 cases e1:C0 v H with
 | none=>left;rw [C9 (Fv e1)]
 | some p =>
  rw [Du (Fu e1)]
  obtain ⟨xs,src⟩:=p
  dsimp only
  cases e2:M.quiet (E5 (chk src xs) (I5 T Φ cond elt Γ) xs) H with
  | bad=>left;rw [C9 e2]
  | exc c H'=>exact (Vf e2).elim
  | ok ys H₂ =>
   rw [Du e2]
   by_cases q:ys.length < lid
   · right
     refine ⟨xs,src,ys,H₂,rfl,Yr e2,by skip;exact q,?_⟩
     rw [if_pos q];rfl
   · left;rw [if_neg q];rfl
theorem Vg{h:Heap}{C:Addr}{m:Str->Option Value}(n:h.Ns C m):∃ o,h.get? C=some o/\¬Fo o/\∀ D,¬C8 o D:=by
 refine Ae fun G kG=>?_
 refine ex3 n fun o es ep zz=>Ap zz fun e d _=>?_
 refine kG ?_
 exact ⟨o,e,fun f=>f.notDict _ _ d,fun D f=>f.notDict _ _ d⟩
theorem Ys(hh:A.handled=none){it:ME}{i:Expr}{px pos:Pos}(hi:Ec i=true)(hc:Jz sc csc x=true)(hnd:∀ (i j:Nat) (y:Str),ns[i]?=some (some y)->ns[j]?=some (some y)->i=j)(hΓ:Γ.length=ns.length)
 (pt:CParts A Φ l csc (Dz csc ns++[some x]) cond elt ifs e) (y:EOk A ((Amb.env env sc ns Γ).and (Amb.frames l)) Φ env Γ it i) :
 EOk A ((Amb.env env sc ns Γ).and (Amb.frames l)) Φ env Γ (.comp elt it cond) (.ListComp e [⟨.Name x px,i,ifs,0⟩] csc pos):=by
 refine Ap (Bu hc) fun c1 c2 c3=>?_
 refine EOk.of ?_ rfl
 intro H ρ s R p
 rw [N3]
 refine A8.bindK (K':=fun Q E s=>wpAny (model cx.prog cx.w) A (eval (.ListComp e [⟨.Name x px,i,ifs,0⟩] csc pos) env) Q E s)
  (K:=fun xv Q E s=>wpAny (model cx.prog cx.w) A (pyIter xv) (fun it s₂=>wpAny (model cx.prog cx.w) A (newList []) (fun acc s₃=>wpAny (model cx.prog cx.w) A (newFunctionEnv csc env.globals (Fp env csc.names []) [] env.qual none .none (some env)) (fun cenv s₄ =>
   codeAny (model cx.prog cx.w) A (.compStart (.ListComp e [⟨.Name x px,i,ifs,0⟩] csc pos) 0 it acc { cenv with scope:=relabel csc env }) (compPost (model cx.prog cx.w) A E none Q acc cenv.locals) s₄) E s₃) E s₂) E s) (y.val H ρ s R p) ?_ ?_ ?_
 · intro b xv H1 ρ1 s1 _ F1 R1 vr
   rcases Gu (T:=cx.T) (Φ:=Φ) (cond:=cond) (elt:=elt) (Γ:=Γ) (v:=b) (H:=H1) with w | ⟨xs,src,ys,H₂,w1,w2,w3,w4⟩
   · rw [w];trivial
   · rw [w4]
     refine Lg hh hc hnd hΓ pt R1 (p.1.full F1) (p.2.full F1) vr w1 w2 w3 fun D C ρ' s' F' R' v' m' n' hC=>?_
     refine Ae fun G kG=>?_
     obtain ⟨m,hm⟩:=m'
     refine ex1 (Vg hm) fun oC zz=>Ap zz fun gC nf nx=>?_
     refine kG ?_
     have lvB:E3 cx.h₀ s1.heap:=fun b o e=>⟨o,R1.base b o e⟩
     refine ⟨m,hm,fun h' hs=>?_⟩
     have st:Step ρ' s'.heap ρ' h':=Step.ext gC hs.extBut nf nx
     exact ⟨ρ',F'.fresh hC hs.extBut,R'.ext (tk:=s'.toks) gC hs.extBut nf nx n' (lvB.none hC),v'.step st⟩
 · intro xv Q E Q' E' s h k1 k2
   exact zE h (fun it s₂ h2=>zE h2 (fun acc s₃ h3=>zE h3 (fun cenv s₄ h4=>codeAny_mono h4 fun r s' hr=>Hr hr k1 k2) k2) k2) k2
 · intro Q E h
   exact wpAny_comprehension_free (use:=none) (g:=⟨.Name x px,i,ifs,0⟩) (gs:=[]) rfl (fun xv=>Fw hi env xv)
    (Hq fun p' hp' hf=>p.1.st.hasCell p'.1 (by rcases (c3 p' hp').2 hf with w | w;exact .inl w;exact .inr w)) c1 (fun p' hp' hl=>by rw [(c3 p' hp').1,hl]) h
end
section
variable{A:Around}{Φ:Funs}{l:List Env}{d:Nat}{env:Env}{sc:Scope}{ns:List (Option Str)}{Γ:Env'}{H:Hp}{ρ:Rho}{s:Shared}
theorem VR.handed{m:Val}{v:Value}{h:Heap}(x:VR ρ h m v):handedOut v=pure v:=by cases x <;> rfl
theorem Rel.instAt(R:Rel H ρ s){i c:Nat}{fs:List (Nat × Val)}{p:Addr × Addr}(hH:H[i]?=some (.inst c fs))(hρ:ρ[i]?=some p) :
 ∃ C o mA,(cx.T.meth c 0).isSome=true/\cx.cls[c]?=some (.ref C)/\s.heap.get? p.1=some o/\o.cls=.ref C/\(∀ c,o.data≠.cls c)/\o.dict=some p.2/\p.2≠p.1/\s.heap.Ns1 p.2 mA /\
  (∀ n v,fs.lookup n=some v->∃ y x,cx.attrs[n]?=some y/\mA y=some x/\VR ρ s.heap v x)/\(∀ y,mA y≠none->∃ n v,cx.attrs[n]?=some y/\fs.lookup n=some v):=by
 have:=R.objs i _ p hH hρ
 generalize ho:HObj.inst c fs=o at this
 cases this with
 | list _ _ _=>exact nomatch ho
 | dict _ _ _=>cases ho
 | hid _=>cases ho
 | inst k0 k e k1 k2 k3 k4 n f g=>cases ho;exact ⟨_,_,_,k0,k,e,k1,k2,k3,k4,n,f,g⟩
theorem Pk{h:Heap}{a b C:Addr}{o:Obj}{mA:Str->Option Value}(e:h.get? a=some o)(k1:o.cls=.ref C)(k2:∀ c,o.data≠.cls c)(k3:o.dict=some b)(k4:b≠a)(n:h.Ns1 b mA):h.Inst a C mA :=
 ⟨o,e,k1,k2,.inr ⟨b,k3,k4,n⟩⟩
theorem Gn.looks{α β:Type}{f:Hp->Option β}{K:(α->Shared->Prop)->(Value->Shared->Prop)->Shared->Prop}{V:β->α->Amb}(y:∀ b,f H=some b->Gn (.ok b H) K V ρ s):Gn (M.look f H) K V ρ s:=by
 cases e:f H with
 | none=>rw [Fv e];trivial
 | some b=>rw [Fu e];exact y b e
theorem Si(CB:ClsBase)(R:Rel H ρ s){i c n:Nat}{fs:List (Nat × Val)}{p:Addr × Addr}{y:Str}{m:Val}(hH:H[i]?=some (.inst c fs))(hρ:ρ[i]?=some p)(hy:cx.attrs[n]?=some y)(hm:fs.lookup n=some m){Q:Value->Shared->Prop}{E:Value->Shared->Prop}
 (k:∀ v tk,VR ρ s.heap m v->Q v { s with toks:=tk }):wpAny (model cx.prog cx.w) A (getAttr (.ref p.1) y true) Q E s:=by
 refine Ae fun G kG=>?_
 refine ex3 (R.instAt hH hρ) fun C o mA zz=>Abm zz fun k0 kc e k1 k2 k3 k4 nn f g=>?_
 refine Xh ((CB.cls c C kc k0).is) fun nm q Nn bs sn sub col dd q0 q1 q2 q3 q5 mN zz=>Ov zz fun hC hN h1 h2 h3 h4 h5=>?_
 refine ex2 (f n m hm) fun y' x zz=>Ap zz fun hy' hx vr=>?_
 refine kG ?_
 rw [hy] at hy';cases hy'
 exact load_attr (R.base _ _ hC) (hN.keeps R.base) h1 (h4 n y hy).1 (h4 n y hy).2 (Pk e k1 k2 k3 k4 nn) hx vr.handed (k x _ vr)
set_option tactic.hygienic true in
theorem Yt(CB:ClsBase){P:Amb}{a:ME}{n:Nat}{v:Expr}{y:Str}{pos:Pos}(hn:Dy N.attrs y n=true)(hs:Cp v=true)(x:EOk A P Φ env Γ a v) :
 EOk A P Φ env Γ (.attr a n) (.Attribute v y pos):=by
 refine EOk.of ?_ rfl
 intro H ρ s R p
 refine A8.bindK (K':=fun Q E s=>wpAny (model cx.prog cx.w) A (eval (.Attribute v y pos) env) Q E s) (K:=fun o Q E s=>wpAny (model cx.prog cx.w) A (getAttr o y true) Q E s) (x.val H ρ s R p) ?_ (fun _=>Jg _) ?_
 · intro b o H1 ρ1 s1 _ F1 R1 vr
   have vr':VR ρ1 s1.heap b o:=vr
   refine Gn.looks fun m hm=>?_
   split at hm
   · rename_i i
     refine ex1 vr'.loc_inv fun p1 zz=>Ac zz fun hp1 hr0=>?_;refine Eq.symm hr0▸?_
     split at hm
     · rename_i c fs hi
       exact Si CB R1 hi hp1 (CB.attr y n (Cq hn)) hm fun v tk vr=>⟨ρ1,Full.refl _ _,R1.toks tk,vr⟩
     · exact Ad hm
   · exact Ad hm
 · intro Q E h
   rw [arm_eval_Attribute,Dn hs]
   exact zB (zE h (fun o s₁ h₁=>zB (wpAny_standAt (zB (wpAny_holding (zE h₁ (fun r s₂ h₂=>zB (wpAny_letTemporaryGo (zH h₂))) fun _ _ q=>q))))) fun _ _ q=>q)
theorem J6:∀ (fs:List (Nat × Val)) (n:Nat) (v:Val),(Tk fs n v).lookup n=some v
 | [],n,v=>by
  show List.lookup n [(n,v)]=_
  simp
 | (m,u) :: r,n,v=>by
  rw [Ni]
  by_cases e:m=n
  · rw [if_pos e,e];simp
  · rw [if_neg e,List.lookup_cons]
    have:(n == m)=false:=by simpa using fun q:n=m=>e q.symm
    rw [this];exact J6 r n v
theorem Ii:∀ (fs:List (Nat × Val)) (n k:Nat) (v:Val),k≠n->(Tk fs n v).lookup k=fs.lookup k
 | [],n,k,v,h=>by
  have:(k == n)=false:=by simpa using h
  show List.lookup k [(n,v)]=none
  rw [List.lookup_cons,this];rfl
 | (m,u) :: r,n,k,v,h=>by
  rw [Ni]
  by_cases e:m=n
  · rw [if_pos e,e,List.lookup_cons,List.lookup_cons]
    have:(k == n)=false:=by simpa using h
    rw [this]
  · rw [if_neg e,List.lookup_cons,List.lookup_cons,Ii r n k v h]
theorem Sj(CB:ClsBase)(R:Rel H ρ s){i c n:Nat}{fs:List (Nat × Val)}{p:Addr × Addr}{y:Str}{m:Val}{v:Value}(hH:H[i]?=some (.inst c fs))(hρ:ρ[i]?=some p)(hy:cx.attrs[n]?=some y)(vr:VR ρ s.heap m v){Q:Unit->Shared->Prop}{E:Value->Shared->Prop}
 (k:∀ s',Full ρ s.heap ρ s'.heap->Rel (H.set i (.inst c (Tk fs n m))) ρ s'->Q () s'):wpAny (model cx.prog cx.w) A (setAttr (.ref p.1) y v) Q E s:=by
 refine Ae fun G kG=>?_
 refine ex3 (R.instAt hH hρ) fun C o mA zz=>Abm zz fun k0 kc e k1 k2 k3 k4 nn f g=>?_
 refine Xh ((CB.cls c C kc k0).is) fun nm q Nn bs sn sub col dd q0 q1 q2 q3 q5 mN zz=>Ov zz fun hC hN h1 h2 h3 h4 h5=>?_
 refine kG ?_
 have hxC:p.1≠C:=fun w=>by have:=(R.new p (zF hρ)).1;rw [w,hC] at this;cases this
 refine store_attr F.store_object (R.base _ _ hC) (hN.keeps R.base) h3 (h4 n y hy).1 (h4 n y hy).2 hxC (Pk e k1 k2 k3 k4 nn) (fun h' tk' I' hk hsame=>?_)
  (ns:=cx.attrs) (fun z hz=>by refine ex2 (g z hz) fun j _ zz=>Ac zz fun hj _=>?_;exact zF hj) CB.few
 refine Ae fun G kG=>?_
 refine ex1 (hsame o e) fun o₁ zz=>Ep zz fun e1 c1 d1 _ dd1=>?_
 refine ex1 I' fun o₂ zz=>Cl zz fun e2 c2 n2 hd2=>?_
 refine kG ?_
 rw [e1] at e2;cases e2
 have nn':h'.Ns1 p.2 (fun z=>if z=y then some v else mA z):=by
  rcases hd2 with ⟨w,_⟩ | ⟨b,w,_,w2⟩
  · rw [dd1 _ k3] at w;cases w
  · rw [dd1 _ k3] at w;cases w;exact w2
 have keep:∀ b ob,s.heap.get? b=some ob->b≠p.1->b≠p.2->h'.get? b=some ob:=fun b ob eb w1 w2=>hk b ob w1 (fun o₀ dx f1 f2=>by rw [e] at f1;cases f1;rw [k3] at f2;cases f2;exact w2) eb
 have lv:E3 s.heap h':=fun b ob eb=>by
  by_cases w1:b=p.1
  · rw [w1];exact ⟨o₁,e1⟩
  · by_cases w2:b=p.2
    · refine ex3 nn' fun on _ _ zz=>Ac zz fun en _=>?_;rw [w2];exact ⟨on,en⟩
    · exact ⟨ob,keep b ob eb w1 w2⟩
 have own:∀ b,¬Av ρ b->b≠p.1/\b≠p.2:=fun b n=>⟨fun e=>n ⟨p,zF hρ,.inl e⟩,fun e=>n ⟨p,zF hρ,.inr e⟩⟩
 have F:Full ρ s.heap ρ h':=⟨J1.refl _ _,fun b ob eb n=>⟨ob,keep b ob eb (own b n).1 (own b n).2,.refl ob⟩,lv⟩
 obtain ⟨_,R'⟩:=R.set (tk:=tk') (o:=.inst c (Tk fs n m)) hρ keep lv (by
  obtain ⟨p1,p2⟩:=p
  refine .inst k0 kc e1 (c1.trans k1) n2 (dd1 _ k3) k4 nn' (fun j u hj=>?_) (fun z hz=>?_)
  · by_cases w:j=n
    · subst w
      rw [J6] at hj;cases hj
      exact ⟨y,v,hy,by simp,vr.step F.step⟩
    · rw [Ii _ _ _ _ w] at hj
      refine ex2 (f j u hj) fun y' x zz=>Ap zz fun hy' hx vx=>?_
      have ne:y'≠y:=fun q=>w (CB.inj j n y (q▸hy') hy)
      exact ⟨y',x,hy',by simp [ne,hx],vx.step F.step⟩
  · by_cases w:z=y
    · exact ⟨n,m,w▸hy,J6 _ _ _⟩
    · simp only [w,if_false] at hz
      refine ex2 (g z hz) fun j u zz=>Ac zz fun hj hu=>?_
      have ne:j≠n:=fun q=>w (by rw [q,hy] at hj;cases hj;rfl)
      exact ⟨j,u,hj,by rw [Ii _ _ _ _ ne];exact hu⟩)
 exact k _ F R'
theorem Kt{o:Expr}{name:Str}{apos pos:Pos}{args:List Expr}{Q:Value->Shared->Prop}{E:Value->Shared->Prop}(hs:Cp o=true)(hp:B6 env args)(hz:args.length<=20)(hline:(apos.endLine == pos.line)=true)
 (h:wpAny (model cx.prog cx.w) A (eval o env) (fun ov s₁=>∀ pl,wpAny (model cx.prog cx.w) A (getMethod ov name pl) (fun r s₂=>wpAny (model cx.prog cx.w) A (callWith pos r.1 r.2 (args.map fun e=>(false,eval e env)) []) Q E s₂) E s₁) E s) :
 wpAny (model cx.prog cx.w) A (eval (.Call (.Attribute o name apos) args [] pos) env) Q E s:=by
 rw [arm_eval_Call,Dn hs]
 refine zB (zE h (fun ov s₁ h₁=>?_) fun _ _ e=>e)
 refine zB (wpAny_standAt ?_)
 have hform:methodCallForm (args.length+([]:List Keyword).length) (backTo pos (starEach args env)) (backToKw pos (keywordEach [] env))=true:=Hj hp hz
 have hpos:methodCallPos true o env apos pos=pure pos:=by unfold methodCallPos;simp [hline]
 unfold methodCall
 rw [hform,An pos hp]
 refine zB (wpAny_holding (zE (h₁ _) (fun r s₂ h₂=>?_) fun _ _ e=>e))
 exact zB (wpAny_of_eq hpos h₂)
theorem Sk{T:Tab}{v:Val}{m k:Nat}(h:(match v with | .loc i=>(match H[i]? with | some (.inst c _)=>T.meth c m | _=>none) | _=>none)=some k):∃ i c fs,v=.loc i/\H[i]?=some (.inst c fs)/\T.meth c m=some k:=by
 split at h
 · split at h
   · exact ⟨_,_,_,rfl,by assumption,h⟩
   · exact Ad h
 · exact Ad h
theorem Vh(CB:ClsBase)(hΦ:Hl Φ d)(room:Room A d)(hfr:A.frames=some l){a:ME}{m:Nat}{es:MEs}{o:Expr}{y:Str}{apos pos:Pos}{xs:List Expr}(hm:Dy N.meths y m=true)(hes:ckEs N sc ns es xs=true)(hz:xs.length<=20)(hs:Cp o=true)(hline:(apos.endLine == pos.line)=true)
 (x:EOk A ((Amb.env env sc ns Γ).and (Amb.frames l)) Φ env Γ a o) (y':Sim A ((Amb.env env sc ns Γ).and (Amb.frames l)) (spliced (xs.map fun e=>(false,eval e env))) (evalEs cx.T Φ es Γ) (Amb.vrs)) :
 EOk A ((Amb.env env sc ns Γ).and (Amb.frames l)) Φ env Γ (.umeth a m es) (.Call (.Attribute o y apos) xs [] pos):=by
 refine EOk.of ?_ rfl
 intro H ρ s R p
 first | rw [Ly] | rw [Qc] | rw [Jf] | rw [Xk] | rw [He] | rw [Xl]
 refine A8.bindK (K':=fun Q E s=>wpAny (model cx.prog cx.w) A (eval (.Call (.Attribute o y apos) xs [] pos) env) Q E s) (K:=fun ov Q E s=>∀ pl,wpAny (model cx.prog cx.w) A (getMethod ov y pl) (fun r s₂=>wpAny (model cx.prog cx.w) A (callWith pos r.1 r.2 (xs.map fun e=>(false,eval e env)) []) Q E s₂) E s) (x.val H ρ s R p) ?_ ?_
  (fun Q E h=>Kt hs (B8 hes) hz hline h)
 · intro b ov H1 ρ1 s1 _ F1 R1 vr
   have vr':VR ρ1 s1.heap b ov:=vr
   refine Gn.lookK fun k hk=>?_
   refine Ae fun G kG=>?_
   refine ex3 (Sk hk) fun i c fs zz=>Ap zz fun zr3 hi hk'=>?_;subst zr3
   refine ex1 vr'.loc_inv fun p1 zz=>Ac zz fun hp1 zr2=>?_;subst zr2
   refine ex3 (R1.instAt hi hp1) fun C ob mA zz=>Abm zz fun k0 kc e k1 k2 k3 k4 nn f g=>?_
   refine Xh ((CB.cls c C kc k0).is) fun nm q Nn bs sn sub col dd q0 q1 q2 q3 q5 mN zz=>Ov zz fun hC hN h1 h2 h3 h4 h5=>?_
   refine ex3 (h5 y m k (Cq hm) hk') fun fa fo fd zz=>Ov zz fun hfa hmN hfo hfc hfd hna zz=>ex1 zz fun r hr=>?_
   refine kG ?_
   have hmA:mA y=none:=by
    cases w:mA y with
    | none=>rfl
    | some z=>refine ex2 (g y (by rw [w];exact fun q=>nomatch q)) fun j _ zz=>Ac zz fun hj _=>?_;exact absurd hj (hna j)
   refine Gn.mono (Ft (f:=.ref fa) (K:=fun vs Q E s=>(s.heap.get? fa=some fo/\fo.data=.func fd)/\wpAny (model cx.prog cx.w) A (call (.ref fa) (.ref p1.1 :: vs)) Q E s) (fun e=>Gf (e▸hes)) R1 (y' H1 ρ1 s1 R1 (((Amb.env env sc ns Γ).and (Amb.frames l)).st _ _ _ _ p F1)) ?_ ?_) ?_
   · intro ms vs H2 ρ2 s2 _ F2 R2 vrs
     exact Gn.andK ⟨R2.base _ _ hfo,hfd⟩ (hΦ k fa (.loc i :: ms) (.ref p1.1 :: vs) A l hfa room.toF hfr H2 ρ2 s2 R2 ⟨.cons (VR.step F2.step vr) vrs,(p.2.full F1).full F2⟩)
   · exact fun vs Q E Q' E' s h k1 k2=>⟨h.1,zE h.2 k1 k2⟩
   · intro Q E h pl
     refine method_of (R1.base _ _ hC) (hN.keeps R1.base) h1 h2 hmN (R1.base _ _ hfo) hfc hr (Pk e k1 k2 k3 k4 nn) hmA ?_
     exact Calls.callWith_function (o:=fo) (fd:=fd) (zE h (fun b s₁ h₁=>by rw [h₁.1];exact h₁.2) fun _ _ q=>q)
 · exact fun ov Q E Q' E' s h k1 k2 pl=>zE (h pl) (fun r s₂ h₂=>zE h₂ k1 k2) k2
theorem callWith_own{nm q:Str}{C Nn:Addr}{bs:List Value}{sn:List Str}{sub:List Value}{col:Option Bool}{dd:Option Addr}{k0 k1 k2 k3 k5:Option Value}{pos:Pos}{args:List (Bool × Sem Value)}{Q:Value->Shared->Prop}{E:Value->Shared->Prop}(hplain:args.any (·.1)=false)
 (h:wpAny (model cx.prog cx.w) A (evalArgs (.ref C) true args []) (fun as s₁=>as.kw=[]/\s₁.heap.get? C=some (excClassObj nm q C Nn bs [.type "object"] true sn sub false col dd k0 k1 k2 k3 k5 "object.__new__")/\wpAny (model cx.prog cx.w) A (call (.ref C) as.pos) Q E s₁) E s) :
 wpAny (model cx.prog cx.w) A (callWith pos (.ref C) [] args []) Q E s:=by
 unfold callWith
 refine zB (wpAny_holding (zE h (fun as s₁ h₁=>?_) fun _ _ x=>x))
 refine Ap h₁ fun e hC hc=>?_
 obtain ⟨ps,kw⟩:=as
 dsimp only at e hc
 subst e
 obtain ⟨hh,g,dr,t,os⟩:=s₁
 have f1:=tc_lookup
 have hT:(⟨hh,g,dr,t,os⟩:Shared).TypeIs (.ref C) "type":=⟨_,hC,rfl⟩
 refine zB (wpAny_standAt ?_)
 unfold keeperOf specialOf
 repeat (any_goals (first | assumption | with_reducible refine wpAny_loadPart_at hC ?_ | with_reducible refine wpAny_load' hC ?_ | wp_step))
 rw [if_pos (by rfl),hplain]
 exact zB (zE hc (fun r s' hr=>zB (wpAny_holding (wpAny_point (zH hr)))) fun _ _ x=>x)
theorem Room.made{C:Addr}{vs:List Value}(r:Room A d):RoomF (A.under (.builtin "type.__call__" ⟨.ref C :: vs,[]⟩)) d:=by
 refine ⟨r.hh,?_,?_⟩
 · show A.depth+1+5 * d+147 < recursionLimit
   have:=r.depth;exact Ape this
 · show A.units+1+20 * d+90 < cLine
   have:=r.units;exact Apf this
theorem Vi{T:Tab}{c k:Nat}{ms:List Val}(h:T.meth c 0=some k):Ru T Φ c ms H=(match Φ k (.loc H.length :: ms) (H++[.inst c []]) with
 | .ok r H'=>(match r with | .none=>Res.ok (.loc H.length) H' | _=>.bad)
 | .exc e H'=>.exc e H'
 | .bad=>.bad):=by
 unfold Ru
 rw [h]
 show M.bnd _ _ _=_
 rw [Du (show M.alloc (.inst c []) H=.ok (.loc H.length) (H++[.inst c []]) from rfl)]
 cases e:Φ k (.loc H.length :: ms) (H++[.inst c []]) with
 | bad=>rw [C9 e]
 | exc x H'=>rw [E4 e]
 | ok r H'=>rw [Du e];cases r <;> rfl
theorem Yu(CB:ClsBase)(hΦ:Hl Φ d)(room:Room A d)(hfr:A.frames=some l){c:Nat}{C:Addr}{ms:List Val}{vs:List Value}(hc:cx.cls[c]?=some (.ref C))(R:Rel H ρ s)(vrs:VRs ρ s.heap ms vs)(fr:Aw l ρ s.heap) :
 Gn (Ru cx.T Φ c ms H) (fun Q E s=>wpAny (model cx.prog cx.w) A (call (.ref C) vs) Q E s) (Amb.vr) ρ s:=by
 cases hk:cx.T.meth c 0 with
 | none=>unfold Ru;rw [hk];trivial
 | some k =>
  have hks:(cx.T.meth c 0).isSome=true:=by rw [hk];rfl
  refine Ae fun G kG=>?_
  refine Xh ((CB.cls c C hc hks).is) fun nm q Nn bs sn sub col dd q0 q1 q2 q3 q5 mN zz=>Ov zz fun hC hN h1 h2 h3 h4 h5=>?_
  refine ex3 (h5 _ 0 k CB.init hk) fun fa fo fd zz=>Ov zz fun hfa hmN hfo hfc hfd hna _=>?_
  refine kG ?_
  rw [Vi hk]
  have main:∀ (Q:Value->Shared->Prop) (E:Value->Shared->Prop),(∀ h' x dx,Heap.MadeObj s.heap h' x dx C->wpAny (model cx.prog cx.w) (A.under (.builtin "type.__call__" ⟨.ref C :: vs,[]⟩)) (call (.ref fa) (.ref x :: vs)) (fun r s'=>r=.none/\Q (.ref x) s') E { s with heap:=h' })->wpAny (model cx.prog cx.w) A (call (.ref C) vs) Q E s:=by
   intro Q E hq
   exact wpAny_call_obj_init F.objNew (R.base _ _ hC) (hN.keeps R.base) hmN (R.base _ _ hfo) hfc hq
  have Dz:∀ h' x dx,Heap.MadeObj s.heap h' x dx C->Full ρ s.heap (ρ++[(x,dx)]) h'/\A8 (A.under (.builtin "type.__call__" ⟨.ref C :: vs,[]⟩)) (Φ k (.loc H.length :: ms) (H++[.inst c []])) (call (.ref fa) (.ref x :: vs)) (Amb.vr) (ρ++[(x,dx)]) { s with heap:=h' }:=by
   intro h' x dx mo
   refine Ae fun G kG=>?_
   refine ex1 mo.inst fun o zz=>Cl zz fun ho oc od odd=>?_
   have hdx:=mo.dict o ho
   have nn:dx≠x/\h'.Ns1 dx (fun _=>none):=by
    rcases odd with ⟨w,_⟩ | ⟨b,w,w1,w2⟩
    · rw [hdx] at w;cases w
    · rw [hdx] at w;cases w;exact ⟨w1,w2⟩
   obtain ⟨F,R'⟩:=R.alloc (tk:=s.toks) (o:=.inst c []) (p:=(x,dx)) mo.keeps ⟨mo.newX,mo.newD⟩ (.inst hks hc ho oc od hdx nn.1 nn.2 (fun n v hv=>by cases hv) (fun y hy=>absurd rfl hy))
   refine kG ?_
   have vx:VR (ρ++[(x,dx)]) h' (.loc H.length) (.ref x):=VR.loc (p:=(x,dx)) (by rw [R.len,List.getElem?_append_right (zI _)];simp)
   exact ⟨F,hΦ k fa (.loc H.length :: ms) (.ref x :: vs) _ l hfa room.made hfr _ _ _ R' ⟨.cons vx (vrs.step F.step),fr.full F⟩⟩
  cases hr:Φ k (.loc H.length :: ms) (H++[.inst c []]) with
  | bad=>trivial
  | exc e H' =>
   refine main _ _ fun h' x dx mo=>?_
   obtain ⟨F,sm⟩:=Dz h' x dx mo
   rw [hr] at sm
   exact zE sm (fun _ _ q=>q.elim) fun ex s' ⟨ρ',F',R',fl⟩=>⟨ρ',F.trans F',R',fl.older F.live⟩
  | ok r H' =>
   cases r with
   | none =>
    refine main _ _ fun h' x dx mo=>?_
    obtain ⟨F,sm⟩:=Dz h' x dx mo
    rw [hr] at sm
    refine zE sm (fun r' s' ⟨ρ',F',R',vr⟩=>⟨VR.none_inv vr,ρ',F.trans F',R',?_⟩) fun _ _ q=>q.elim
    exact VR.loc (p:=(x,dx)) (F'.grow.get (by rw [R.len,List.getElem?_append_right (zI _)];simp))
   | _=>trivial
theorem Ac2(B:Base)(hΦ:Hl Φ d)(room:Room A d)(hfr:A.frames=some l){c:Nat}{es:MEs}{x:Str}{np pos:Pos}{xs:List Expr}(hg:Br sc x=true)(hk:Dy N.clss x c=true)(hes:ckEs N sc ns es xs=true)
 (y':Sim A ((Amb.env env sc ns Γ).and (Amb.frames l)) (spliced (xs.map fun e=>(false,eval e env))) (evalEs cx.T Φ es Γ) (Amb.vrs)) :
 EOk A ((Amb.env env sc ns Γ).and (Amb.frames l)) Φ env Γ (.new c es) (.Call (.Name x np) xs [] pos):=by
 refine EOk.of ?_ rfl
 intro H ρ s R p
 first | rw [Ly] | rw [Qc] | rw [Jf] | rw [Xk] | rw [He] | rw [Xl]
 cases hm:cx.T.meth c 0 with
 | none=>trivial
 | some k =>
  have hks:(cx.T.meth c 0).isSome=true:=by rw [hm];rfl
  refine Ae fun G kG=>?_
  refine ex2 B.ns fun mg mb zz=>Lx zz fun ng nb _ _ q _=>?_
  refine ex1 (q x c (Cq hk)) fun Cv zz=>Ac zz fun hC hx=>?_
  obtain ⟨C,rfl⟩:=B.cls.ref c Cv hC hks
  refine Xh ((B.cls.cls c C hC hks).is) fun nm qn Nn bs sn sub col dd q0 q1 q2 q3 q5 mN zz=>Ac zz fun hCo _=>?_
  refine kG ?_
  refine Gn.mono (Ft (f:=.ref C) (K:=fun vs Q E s=>s.heap.get? C=some (excClassObj nm qn C Nn bs [.type "object"] true sn sub false col dd q0 q1 q2 q3 q5 "object.__new__")/\wpAny (model cx.prog cx.w) A (call (.ref C) vs) Q E s) (fun e=>Gf (e▸hes)) R (y' H ρ s R p) ?_ ?_) ?_
  · intro ms vs H1 ρ1 s1 _ F1 R1 vrs
    exact Gn.andK (R1.base _ _ hCo) (Yu B.cls hΦ room hfr hC R1 vrs (p.2.full F1))
  · exact fun vs Q E Q' E' s h k1 k2=>⟨h.1,zE h.2 k1 k2⟩
  · intro Q E h
    refine wpAny_Call_ofName (wp_glob R p.1.st hg ng nb hx ?_)
    rw [An pos (B8 hes)]
    exact callWith_own (Dg _) (zE h (fun b s₁ h₁=>by refine Ap h₁ fun h1 h2 h3=>?_;exact ⟨h1,h2,h3⟩) fun _ _ q=>q)
end
section
variable{A:Around}{Φ:Funs}{l:List Env}{d:Nat}
structure Ground(A:Around)(Φ:Funs)(l:List Env)(d:Nat):Prop where
 base:Base
 room:Room A d
 frames:A.frames=some l
 funs:Hl Φ d
 defs:∀ (f:Nat) (a:Addr),cx.fns[f]?=some a->∃ g,cx.T.funs[f]?=some g
theorem Ground.u(G:Ground A Φ l d):A.units+100 < cLine:=by have:=G.room.units;exact Apg this
noncomputable def C4(ns:List (Option Str)):Prop:=∀ (i j:Nat) (y:Str),ns[i]?=some (some y)->ns[j]?=some (some y)->i=j
theorem Aat{m:BM}{ms:List Val}{xs:List Expr}(h1:(Hf m).2=xs.length)(h2:ms.length=xs.length):ms.length=(Hf m).2:=by rw [h1,h2]
theorem Aau(hu:A.units+100 < cLine)(m:BM)(b:Val)(v:Value)(ms:List Val)(vs:List Value)(hl:ms.length=(Hf m).2):Sim A ((Amb.vr b v).and (Amb.vrs ms vs)) (call (.builtin (Xe m).2) (v :: vs)) (bmV m b ms) (Amb.vr):=by
 cases m with
 | append=>exact Ud b v ms vs hl
 | pop=>exact Afl b v ms vs hl
 | clear=>exact X4 b v ms vs hl
 | rstrip=>exact Ue b v ms vs hl
 | dpop=>exact Acg hu b v ms vs hl
set_option maxHeartbeats 4000000 in
mutual
theorem eok(G:Ground A Φ l d):∀ (m:ME) (e:Expr) (env:Env) (sc:Scope) (ns:List (Option Str)) (Γ:Env'),ck N sc ns m e=true->C4 ns->Γ.length=ns.length->EOk A ((Amb.env env sc ns Γ).and (Amb.frames l)) Φ env Γ m e
 | .none,e,env,sc,ns,Γ,h,_,_=>by
  refine ex2 (Qn h) fun k pos hr0=>?_;refine Eq.symm hr0▸?_
  refine EOk.of (fun H ρ s R p=>?_) rfl
  exact As R fun Q E k=>wpAny_Constant_none (k _ s.toks .none)
 | .bool b,e,env,sc,ns,Γ,h,_,_=>by
  refine ex2 (Qo h) fun k pos zr2=>?_;subst zr2
  refine EOk.of (fun H ρ s R p=>?_) rfl
  exact As R fun Q E k=>wpAny_Constant_bool (k _ s.toks (.bool b))
 | .int i,e,env,sc,ns,Γ,h,_,_=>by
  refine ex2 (Uf h) fun k pos zr2=>?_;subst zr2
  refine EOk.of (fun H ρ s R p=>?_) rfl
  exact As R fun Q E k=>wpAny_Constant_int (k _ _ (.int _ _))
 | .str v,e,env,sc,ns,Γ,h,_,_=>by
  refine ex2 (Ug h) fun k pos zz=>Ac zz fun hr3 z=>?_;refine Eq.symm hr3▸?_
  refine EOk.of (fun H ρ s R p=>?_) rfl
  exact As R fun Q E k=>wpAny_Constant_str (k _ _ (.str _ _ (by rw [sizeLine_eq];exact o22 z)))
 | .glob k,e,env,sc,ns,Γ,h,_,_=>by
  refine ex2 (X6 h) fun x pos zz=>Ap zz fun zr2 h1 h2=>?_;subst zr2
  exact EOk.of (Xv G.base h1 h2 Φ).and1 rfl
 | .var i,e,env,sc,ns,Γ,h,_,_=>by
  refine ex2 (Uh h) fun x pos zz=>Ac zz fun zr2 h1=>?_;subst zr2
  exact EOk.of (T9 h1 Φ).and1 rfl
 | .bin op a b,e,env,sc,ns,Γ,h,ha,hΓ=>by
  refine ex4 (Ui h) fun x o y pos zz=>Cl zz fun hr6 h1 h2 h3=>?_;refine Eq.symm hr6▸?_
  exact U7 h1 (eok G a x env sc ns Γ h2 ha hΓ) (eok G b y env sc ns Γ h3 ha hΓ)
 | .neg a,e,env,sc,ns,Γ,h,ha,hΓ=>by
  refine ex2 (Ach h) fun x pos zz=>Ac zz fun zr2 h1=>?_;subst zr2
  exact Acv (eok G a x env sc ns Γ h1 ha hΓ)
 | .not a,e,env,sc,ns,Γ,h,ha,hΓ=>by
  refine ex2 (Aci h) fun x pos zz=>Ac zz fun zr2 h1=>?_;subst zr2
  exact Acw (eok G a x env sc ns Γ h1 ha hΓ)
 | .and a b,e,env,sc,ns,Γ,h,ha,hΓ=>by
  refine ex4 (Acj h) fun x y rest pos zz=>Ap zz fun zr4 h1 h2=>?_;subst zr4
  refine Acy (eok G a x env sc ns Γ h1 ha hΓ) ?_
  rcases h2 with ⟨rfl,h2⟩ | h2
  · exact Xf.one (eok G b y env sc ns Γ h2 ha hΓ)
  · exact Xf.more (eok G b _ env sc ns Γ h2 ha hΓ)
 | .or a b,e,env,sc,ns,Γ,h,ha,hΓ=>by
  refine ex4 (Afn h) fun x y rest pos zz=>Ap zz fun zr4 h1 h2=>?_;subst zr4
  refine Af0 (eok G a x env sc ns Γ h1 ha hΓ) ?_
  rcases h2 with ⟨rfl,h2⟩ | h2
  · exact Xf.one (eok G b y env sc ns Γ h2 ha hΓ)
  · exact Xf.more (eok G b _ env sc ns Γ h2 ha hΓ)
 | .cmp op a b,e,env,sc,ns,Γ,h,ha,hΓ=>by
  refine ex3 (Uj h) fun x y pos zz=>Cl zz fun hr11 h1 h2 h3=>?_;refine Eq.symm hr11▸?_
  exact U8 G.u h3 (eok G a x env sc ns Γ h1 ha hΓ) (eok G b y env sc ns Γ h2 ha hΓ)
 | .cmp2 op1 op2 a b c,e,env,sc,ns,Γ,h,ha,hΓ=>by
  refine ex4 (X7 h) fun x y z pos zz=>Ep zz fun hr12 h1 h2 h3 h4=>?_;refine Eq.symm hr12▸?_
  exact Yp G.u h4 (eok G a x env sc ns Γ h1 ha hΓ) (eok G b y env sc ns Γ h2 ha hΓ) (eok G c z env sc ns Γ h3 ha hΓ)
 | .sub a i,e,env,sc,ns,Γ,h,ha,hΓ=>by
  refine ex3 (Ack h) fun x y pos zz=>Ap zz fun hr13 h1 h2=>?_;refine Eq.symm hr13▸?_
  exact Ac0 G.u (eok G a x env sc ns Γ h1 ha hΓ) (eok G i y env sc ns Γ h2 ha hΓ)
 | .tup es,e,env,sc,ns,Γ,h,ha,hΓ=>by
  refine ex3 (Acl h) fun xs k pos zz=>Ap zz fun hr15 h1 h2=>?_;refine Eq.symm hr15▸?_
  exact EOk.of (Acn (B8 h1) h2 (fun _ _ _ e=>Cg h1 e) (eoks G es xs env sc ns Γ h1 ha hΓ)) rfl
 | .list es,e,env,sc,ns,Γ,h,ha,hΓ=>by
  refine ex2 (X8 h) fun xs pos zz=>Ap zz fun zr2 h1 h2=>?_;subst zr2
  exact EOk.of (Yc (B8 h1) h2 (fun _ _ _ e=>Cg h1 e) (eoks G es xs env sc ns Γ h1 ha hΓ)) rfl
 | .dict,e,env,sc,ns,Γ,h,ha,hΓ=>by
  obtain ⟨pos,hr17⟩:=X9 h;refine Eq.symm hr17▸?_
  exact EOk.of X5 rfl
 | .attr a n,e,env,sc,ns,Γ,h,ha,hΓ=>by
  refine ex3 (Yb h) fun x y pos zz=>Cl zz fun zr3 h1 h2 h3=>?_;subst zr3
  exact Yt G.base.cls h2 h3 (eok G a x env sc ns Γ h1 ha hΓ)
 | .call f es,e,env,sc,ns,Γ,h,ha,hΓ=>by
  refine ex4 (Qp h) fun x np xs pos zz=>Ep zz fun zr4 h1 h2 h3 h4=>?_;subst zr4
  refine EOk.of ?_ rfl
  refine ex2 G.base.ns fun mg mb zz=>Cl zz fun ng nb q _=>?_
  refine ex1 (q x f (Cq h2)) fun a zz=>Ac zz fun ha' _=>?_
  exact Nx G.base (fun a args vals h=>G.funs f a args vals A l h G.room.toF G.frames) h1 h2 (G.defs f a ha') h3 (eoks G es xs env sc ns Γ h3 ha hΓ)
 | .new c es,e,env,sc,ns,Γ,h,ha,hΓ=>by
  refine ex4 (Acm h) fun x np xs pos zz=>Ep zz fun zr4 h1 h2 h3 h4=>?_;subst zr4
  exact Ac2 G.base G.funs G.room G.frames h1 h2 h3 (eoks G es xs env sc ns Γ h3 ha hΓ)
 | .umeth a m es,e,env,sc,ns,Γ,h,ha,hΓ=>by
  refine ex5 (Uk h) fun o y apos xs pos zz=>Ov zz fun hr21 h1 h2 h3 h4 h5 h6=>?_;refine Eq.symm hr21▸?_
  exact Vh G.base.cls G.funs G.room G.frames h2 h3 h4 h5 h6 (eok G a o env sc ns Γ h1 ha hΓ) (eoks G es xs env sc ns Γ h3 ha hΓ)
 | .bf f es,e,env,sc,ns,Γ,h,ha,hΓ=>by
  refine ex4 (Afo h) fun x np xs pos zz=>Ep zz fun zr4 h1 h2 h3 h4=>?_;subst zr4
  exact Af2 G.base G.room.hh G.u h1 h2 h3 h4 (eoks G es xs env sc ns Γ h4 ha hΓ)
 | .bm a m es,e,env,sc,ns,Γ,h,ha,hΓ=>by
  refine ex5 (Aan h) fun o y apos xs pos zz=>Ov zz fun zr5 h1 zr7 h3 h4 h5 h6=>?_;subst zr5;subst zr7
  refine EOk.of ?_ rfl
  exact Aam h5 (B8 h4) (by rw [<- h3];cases m <;> decide) (fun e=>Gf (e▸h4)) h6 (eok G a o env sc ns Γ h1 ha hΓ).val (eoks G es xs env sc ns Γ h4 ha hΓ)
   (fun b v ms vs hl=>Aau G.u m b v ms vs (Aat h3 hl)) (fun _ _ _ e=>Cg h4 e)
 | .isinst a t,e,env,sc,ns,Γ,h,ha,hΓ=>by
  refine ex6 (Kz h) fun f np x y yp pos zz=>Lx zz fun hr23 h1 h2 h3 h4 h5=>?_;refine Eq.symm hr23▸?_
  have z:=eok G a x env sc ns Γ h4 ha hΓ
  cases t with
  | cls c=>exact Q6 G.base h1 h2 h3 h5 (A9 h4) z
  | int=>exact Em G.base (fun c=>by intro q;cases q) h1 h2 h3 (of_decide_eq_true h5) (A9 h4) z
  | bool=>exact Em G.base (fun c=>by intro q;cases q) h1 h2 h3 (of_decide_eq_true h5) (A9 h4) z
  | str=>exact Em G.base (fun c=>by intro q;cases q) h1 h2 h3 (of_decide_eq_true h5) (A9 h4) z
  | tuple=>exact Em G.base (fun c=>by intro q;cases q) h1 h2 h3 (of_decide_eq_true h5) (A9 h4) z
  | list=>exact Em G.base (fun c=>by intro q;cases q) h1 h2 h3 (of_decide_eq_true h5) (A9 h4) z
 | .comp elt it cond,e,env,sc,ns,Γ,h,ha,hΓ=>by
  refine ex7 (Qq h) fun el x px i ifs csc pos zz=>Lx zz fun hr24 h1 h2 h3 h4 h5=>?_;refine Eq.symm hr24▸?_
  exact Ys G.room.hh h2 h3 ha hΓ ⟨fun cenv Γ' hΓ'=>econd G cond ifs cenv csc _ Γ' h5 (Fx ha (Bu h3).2.1) hΓ',fun cenv Γ' hΓ'=>(eok G elt el cenv csc _ Γ' h4 (Fx ha (Bu h3).2.1) hΓ').val⟩ (eok G it i env sc ns Γ h1 ha hΓ)
theorem Atu(G:Ground A Φ l d):∀ (o:MEo) (x:Option Expr) (env:Env) (sc:Scope) (ns:List (Option Str)) (Γ:Env'),ckO N sc ns o x=true->C4 ns->Γ.length=ns.length->Sim A ((Amb.env env sc ns Γ).and (Amb.frames l)) (evalPart x env) (Abp cx.T Φ o Γ) (Amb.vr)
 | .none,none,env,sc,ns,Γ,_,_,_=>by
  intro H ρ s R p
  exact zH ⟨ρ,Full.refl _ _,R,.none⟩
 | .some e,some x,env,sc,ns,Γ,h,ha,hΓ=>by
  exact (eok G e x env sc ns Γ h ha hΓ).val
 | .none,some _,env,sc,ns,Γ,h,ha,hΓ=>by cases (show false=true from h)
 | .some _,none,env,sc,ns,Γ,h,ha,hΓ=>by cases (show false=true from h)
theorem econd(G:Ground A Φ l d):∀ (cond:MEo) (ifs:List Expr) (cenv:Env) (csc:Scope) (ns':List (Option Str)) (Γ':Env'),ckC N csc ns' cond ifs=true->C4 ns'->Γ'.length=ns'.length ->
 Sim A ((Amb.env cenv csc ns' Γ').and (Amb.frames l)) (forIn ifs true fun c r=>if r=true then do let ok<-isTrue c cenv (eval c cenv);pure (ForInStep.yield ok) else pure (ForInStep.yield r)) (evalC cx.T Φ cond Γ') BV
 | .none,[],cenv,csc,ns',Γ',h2,ha,hΓ=>by
  intro H ρ s R p
  exact wpAny_tests_nil ⟨ρ,Full.refl _ _,R,rfl⟩
 | .some c,[i],cenv,csc,ns',Γ',h2,ha,hΓ=>by
  exact (eok G c i cenv csc ns' Γ' h2 ha hΓ).tru.pre fun Q E s h=>wpAny_tests_one h
 | .none,_ :: _,cenv,csc,ns',Γ',h2,ha,hΓ=>by cases (show false=true from h2)
 | .some _,[],cenv,csc,ns',Γ',h2,ha,hΓ=>by cases (show false=true from h2)
 | .some _,_ :: _ :: _,cenv,csc,ns',Γ',h2,ha,hΓ=>by cases (show false=true from h2)
theorem eoks(G:Ground A Φ l d):∀ (ms:MEs) (xs:List Expr) (env:Env) (sc:Scope) (ns:List (Option Str)) (Γ:Env'),ckEs N sc ns ms xs=true->C4 ns->Γ.length=ns.length ->
 Sim A ((Amb.env env sc ns Γ).and (Amb.frames l)) (spliced (xs.map fun e=>(false,eval e env))) (evalEs cx.T Φ ms Γ) (Amb.vrs)
 | .nil,[],env,sc,ns,Γ,h,ha,hΓ=>Un
 | .nil,_ :: _,env,sc,ns,Γ,h,ha,hΓ=>by cases (show false=true from h)
 | .cons _ _,[],env,sc,ns,Γ,h,ha,hΓ=>by cases (show false=true from h)
 | .cons m ms,x :: xs,env,sc,ns,Γ,h,ha,hΓ=>by
  have h:=And.intro (an1 h) (an2 h)
  exact Qr (eok G m x env sc ns Γ h.1 ha hΓ).val (eoks G ms xs env sc ns Γ h.2 ha hΓ)
end
end
section
variable{A:Around}{Φ:Funs}{l:List Env}{d:Nat}{env:Env}{sc:Scope}{ns:List (Option Str)}{Γ:Env'}{H:Hp}{ρ ρ':Rho}{s:Shared}
noncomputable def Bw(env:Env)(sc:Scope)(ns:List (Option Str))(r:ResS)(T:(Flow->Shared->Prop)->(Value->Shared->Prop)->Shared->Prop)(ρ:Rho)(s:Shared):Prop :=
 match r with
 | .bad=>True
 | .next Γ' H'=>T (fun f s'=>f=.next/\∃ ρ',FullS env ρ s.heap ρ' s'.heap/\Rel H' ρ' s'/\EnvOk env sc ns Γ' ρ' s'.heap) (fun _ _=>False) s
 | .ret v H'=>T (fun f s'=>∃ v' ρ',f=.ret v'/\FullS env ρ s.heap ρ' s'.heap/\Rel H' ρ' s'/\(VR ρ' s'.heap v v'/\EnvSt env sc ρ' s'.heap)) (fun _ _=>False) s
 | .exc c Γ' H'=>T (fun _ _=>False) (fun e s'=>∃ ρ',FullS env ρ s.heap ρ' s'.heap/\Rel H' ρ' s'/\EnvOk env sc ns Γ' ρ' s'.heap/\Flying ρ' s.heap s'.heap c e) s
theorem Bw.of{r:ResS}{t:Sem Flow}(x:Bs A env sc ns r t ρ s):Bw env sc ns r (fun Q E s=>wpAny (model cx.prog cx.w) A t Q E s) ρ s:=by cases r <;> exact x
theorem Bw.to{r:ResS}{t:Sem Flow}(x:Bw env sc ns r (fun Q E s=>wpAny (model cx.prog cx.w) A t Q E s) ρ s):Bs A env sc ns r t ρ s:=by cases r <;> exact x
theorem Bw.mono{r:ResS}{T T':(Flow->Shared->Prop)->(Value->Shared->Prop)->Shared->Prop}(x:Bw env sc ns r T ρ s)(k:∀ Q E,T Q E s->T' Q E s):Bw env sc ns r T' ρ s:=by cases r <;> first | trivial | exact k _ _ x
theorem Bs.bindK{α β:Type}{t:Sem α}{m:M β}{V:β->α->Amb}{g:β->Hp->ResS}{K:α->(Flow->Shared->Prop)->(Value->Shared->Prop)->Shared->Prop}{K':(Flow->Shared->Prop)->(Value->Shared->Prop)->Shared->Prop}(e0:EnvOk env sc ns Γ ρ s.heap)(x:A8 A (m H) t V ρ s)
 (y:∀ b a H' ρ' s',m H=.ok b H'->Full ρ s.heap ρ' s'.heap->Rel H' ρ' s'->EnvOk env sc ns Γ ρ' s'.heap->(V b a).P ρ' s'.heap->Bw env sc ns (g b H') (K a) ρ' s')
 (mk:∀ a,R6 (K a))
 (k:∀ Q E,wpAny (model cx.prog cx.w) A t (fun a s'=>K a Q E s') E s->K' Q E s) :
 Bw env sc ns (Gm m Γ g H) K' ρ s:=by
 unfold Gm
 cases e:m H with
 | bad=>trivial
 | exc c H' =>
  rw [e] at x
  exact k _ _ (zE x (fun _ _ q=>q.elim) fun ex s' ⟨ρ',F,R,fl⟩=>⟨ρ',F.toS,R,e0.full F,fl⟩)
 | ok b H' =>
  rw [e] at x
  show Bw env sc ns (g b H') K' ρ s
  cases e2:g b H' with
  | bad=>trivial
  | next Γ2 H2 =>
   refine k _ _ (zE x (fun a s' ⟨ρ',F,R,v⟩=>?_) fun _ _ q=>q.elim)
   have z:=y b a H' ρ' s' e F R (e0.full F) v
   rw [e2] at z
   exact mk a _ _ _ _ _ z (fun f s'' ⟨h1,ρ'',F',R',e'⟩=>⟨h1,ρ'',F.toS.trans F',R',e'⟩) fun _ _ q=>q.elim
  | ret v2 H2 =>
   refine k _ _ (zE x (fun a s' ⟨ρ',F,R,v⟩=>?_) fun _ _ q=>q.elim)
   have z:=y b a H' ρ' s' e F R (e0.full F) v
   rw [e2] at z
   exact mk a _ _ _ _ _ z (fun f s'' ⟨v',ρ'',h1,F',R',e'⟩=>⟨v',ρ'',h1,F.toS.trans F',R',e'⟩) fun _ _ q=>q.elim
  | exc c2 Γ2 H2 =>
   refine k _ _ (zE x (fun a s' ⟨ρ',F,R,v⟩=>?_) fun _ _ q=>q.elim)
   have z:=y b a H' ρ' s' e F R (e0.full F) v
   rw [e2] at z
   exact mk a _ _ _ _ _ z (fun _ _ q=>q) fun ex s'' ⟨ρ'',F',R',e',fl⟩=>⟨ρ'',F.toS.trans F',R',e',fl.older F.live⟩
theorem Bw.look{β:Type}{f:Hp->Option β}{g:β->Hp->ResS}{K:(Flow->Shared->Prop)->(Value->Shared->Prop)->Shared->Prop}(y:∀ b,f H=some b->Bw env sc ns (g b H) K ρ s):Bw env sc ns (Gm (M.look f) Γ g H) K ρ s:=by
 unfold Gm
 cases e:f H with
 | none=>rw [Fv e];trivial
 | some b=>rw [Fu e];exact y b e
theorem Aw.stmt{h h':Heap}(fr:Aw l ρ h)(F:FullS env ρ h ρ' h')(e0:EnvSt env sc ρ h)(e1:EnvSt env sc ρ' h'):Aw l ρ' h':=fun en he=>by
 refine Ae fun G kG=>?_
 refine Ac (fr en he) fun k zz=>ex2 zz fun L o zz=>Ep zz fun h1 h2 h3 h5 h6=>?_
 refine kG ?_
 by_cases q:L=env.locals
 · refine Ae fun G kG=>?_
   refine ex1 e1.loc fun m zz=>ex3 zz fun o' es ep zz=>Ap zz fun e' d _=>?_
   refine kG ?_
   rw [<- q] at e'
   exact ⟨k,L,o',h1,h2,e',⟨_,_,d⟩,by rw [q];exact e1.locN⟩
 · refine ex2 h5 fun es n hd=>?_
   refine ex1 (F.keep L o h3 h6 q (e0.notCell h3 fun v w=>by rw [hd] at w;cases w)) fun o' zz=>Ac zz fun e' u=>?_
   exact ⟨k,L,o',h1,h2,e',⟨es,n,by rw [u.data];exact hd⟩,F.grow.not h6 h3⟩
theorem Q8{st:Stmt}{rest:List Stmt}{m:Env'->Hp->ResS}{g:Env'->Hp->ResS}(e0:EnvOk env sc ns Γ ρ s.heap)(fr:Aw l ρ s.heap)(x:Bs A env sc ns (m Γ H) (exec st env) ρ s)(y:Gx A l env sc ns (execs rest env) g) :
 Bs A env sc ns (Nj (m Γ H) g) (execs (st :: rest) env) ρ s:=by
 cases e:m Γ H with
 | bad=>trivial
 | ret v H' =>
  rw [e] at x
  exact wpAny_execs_cons (zE x (fun f s' q=>by obtain ⟨v',ρ',rfl,q⟩:=q;exact ⟨v',ρ',rfl,q⟩) fun _ _ q=>q)
 | exc c Γ' H' =>
  rw [e] at x
  exact wpAny_execs_cons (zE x (fun f s' q=>q.elim) fun _ _ q=>q)
 | next Γ' H' =>
  rw [e] at x
  show Bs A env sc ns (g Γ' H') _ ρ s
  cases e2:g Γ' H' with
  | bad=>trivial
  | next Γ2 H2 =>
   refine wpAny_execs_cons (zE x (fun f s' q=>?_) fun _ _ q=>q.elim)
   obtain ⟨rfl,ρ',F,R,e'⟩:=q
   have z:=y Γ' H' ρ' s' R e' (fr.stmt F e0.st e'.st)
   rw [e2] at z
   exact zE z (fun f s'' ⟨h1,ρ'',F',R',e'⟩=>⟨h1,ρ'',F.trans F',R',e'⟩) fun _ _ q=>q.elim
  | ret v2 H2 =>
   refine wpAny_execs_cons (zE x (fun f s' q=>?_) fun _ _ q=>q.elim)
   obtain ⟨rfl,ρ',F,R,e'⟩:=q
   have z:=y Γ' H' ρ' s' R e' (fr.stmt F e0.st e'.st)
   rw [e2] at z
   exact zE z (fun f s'' ⟨v',ρ'',h1,F',R',e'⟩=>⟨v',ρ'',h1,F.trans F',R',e'⟩) fun _ _ q=>q.elim
  | exc c2 Γ2 H2 =>
   refine wpAny_execs_cons (zE x (fun f s' q=>?_) fun _ _ q=>q.elim)
   obtain ⟨rfl,ρ',F,R,e'⟩:=q
   have z:=y Γ' H' ρ' s' R e' (fr.stmt F e0.st e'.st)
   rw [e2] at z
   exact zE z (fun _ _ q=>q.elim) fun ex s'' ⟨ρ'',F',R',e',fl⟩=>⟨ρ'',F.trans F',R',e',fl.older F.live⟩
theorem Vj{i:Nat}{y:Str}{mv:Val}{v:Value}(ha:C4 ns)(R:Rel H ρ s)(e0:EnvOk env sc ns Γ ρ s.heap)(ho:Fn sc ns i y=true)(hv:VR ρ s.heap mv v) :
 Bw env sc ns (.next (Γ.set i (some mv)) H) (fun Q E s=>wpAny (model cx.prog cx.w) A (storeName env y v) (fun _=>Q .next) E s) ρ s :=
 D7 e0.len ha R e0 ho hv fun h' tk F' R' e' _=>⟨rfl,ρ,F',R',e'⟩
theorem Pl{y:Str}{v:Value}:R6 (α:=Flow) fun Q E s=>wpAny (model cx.prog cx.w) A (storeName env y v) (fun _=>Q .next) E s:=fun _ _ _ _ _ h k1 k2=>zE h (fun _ _=>k1 _ _) k2
end
section
variable{A:Around}{Φ:Funs}{l:List Env}{d:Nat}{env:Env}{sc:Scope}{ns:List (Option Str)}{Γ:Env'}{H:Hp}{ρ ρ':Rho}{s:Shared}
noncomputable def Yv(env:Env)(sc:Scope)(ns:List (Option Str))(ρ:Rho)(h:Heap)(r:ResS)(Q:Flow->Shared->Prop)(E:Value->Shared->Prop):Prop :=
 match r with
 | .bad=>True
 | .next Γ' H'=>∀ s' ρ',FullS env ρ h ρ' s'.heap->Rel H' ρ' s'->EnvOk env sc ns Γ' ρ' s'.heap->Q .next s'
 | .ret v H'=>∀ s' ρ' v',FullS env ρ h ρ' s'.heap->Rel H' ρ' s'->(VR ρ' s'.heap v v'/\EnvSt env sc ρ' s'.heap)->Q (.ret v') s'
 | .exc c Γ' H'=>∀ e s' ρ',FullS env ρ h ρ' s'.heap->Rel H' ρ' s'->EnvOk env sc ns Γ' ρ' s'.heap->Flying ρ' h s'.heap c e->E e s'
theorem Bw.ofPost{r:ResS}{T:(Flow->Shared->Prop)->(Value->Shared->Prop)->Shared->Prop}(k:∀ Q E,r≠.bad->Yv env sc ns ρ s.heap r Q E->T Q E s):Bw env sc ns r T ρ s:=by
 cases r with
 | bad=>trivial
 | next Γ' H'=>exact k _ _ (fun q=>by cases q) fun s' ρ' F R e=>⟨rfl,ρ',F,R,e⟩
 | ret v H'=>exact k _ _ (fun q=>by cases q) fun s' ρ' v' F R e=>⟨v',ρ',rfl,F,R,e⟩
 | exc c Γ' H'=>exact k _ _ (fun q=>by cases q) fun e s' ρ' F R e' fl=>⟨ρ',F,R,e',fl⟩
theorem FullS.fresh{h h1 h2:Heap}{qs:List Addr}(F:FullS env ρ h ρ' h1)(hq:∀ q∈qs,h.get? q=none)(hs:∀ b o,b ∉ qs->¬Av ρ' b->h1.get? b=some o->h2.get? b=some o)(lv:E3 h1 h2):FullS env ρ h ρ' h2:=by
 refine ⟨F.grow,fun b o e n n1 n2=>?_,F.live.trans lv⟩
 refine ex1 (F.keep b o e n n1 n2) fun o' zz=>Ac zz fun e' u=>?_
 refine ⟨o',hs b o' (fun w=>?_) (F.grow.not n e) e',u⟩
 rw [hq b w] at e;exact Ad e
theorem EnvOk.priv{h h':Heap}{qs:List Addr}(x:EnvOk env sc ns Γ ρ h)(hs:∀ b o,b ∉ qs->¬Av ρ b->h.get? b=some o->h'.get? b=some o)(hq:∀ q∈qs,∃ o,h.get? q=some o/\Go o)(st:Step ρ h ρ h'):EnvOk env sc ns Γ ρ h':=by
 have nl:env.locals ∉ qs:=fun w=>by refine ex1 (hq _ w) fun o zz=>Ac zz fun e i=>?_;exact x.st.notLoc e i.notDict rfl
 have nc:∀ y c,env.cells.lookup y=some c->c ∉ qs:=fun y c hc w=>by refine ex1 (hq _ w) fun o zz=>Ac zz fun e i=>?_;exact x.st.notCell e i.notCell y hc
 have kl:∀ o,h.get? env.locals=some o->∃ o',h'.get? env.locals=some o'/\o'.data=o.data:=fun o e=>⟨o,hs _ o nl x.st.locN e,rfl⟩
 have kc:∀ y c,env.cells.lookup y=some c->∀ o,h.get? c=some o->∃ o',h'.get? c=some o'/\o'.data=o.data:=fun y c hc o e=>⟨o,hs _ o (nc y c hc) (x.st.cells y c hc).2.1 e,rfl⟩
 obtain ⟨m,hm⟩:=x.st.loc
 refine ⟨⟨x.st.fn,x.st.glob,x.st.blt,x.st.kinds,⟨m,Bh hm kl⟩,x.st.locN,x.st.locB,fun y c hc=>?_,x.st.hasCell,x.st.apart⟩,x.len,fun i y mv hi hm=>?_⟩
 · refine Ap (x.st.cells y c hc) fun zn0 a b=>?_;obtain ⟨v,hv⟩:=zn0
   exact ⟨⟨v,Bj hv (kc y c hc)⟩,a,b⟩
 · refine ex1 (x.vals i y mv hi hm) fun v zz=>Ac zz fun hv r=>?_
   refine ⟨v,?_,r.step st⟩
   rcases hv with ⟨k,m,hm,e⟩ | ⟨k,c,hc,e⟩
   · exact .inl ⟨k,m,Bh hm kl,e⟩
   · exact .inr ⟨k,c,hc,Bj e (kc y c hc)⟩
structure Walk(A:Around)(it:Value)(target:Expr)(xs:List Val)(ck:Hp->Bool) where
 Ok:Nat->Rho->Heap->Prop
 priv:List Addr
 obj:∀ {i ρ h},Ok i ρ h->∀ q∈priv,(∃ o,h.get? q=some o/\Go o)/\¬Av ρ q
 step:∀ {i ρ h ρ' h'},Ok i ρ h->Step ρ h ρ' h'->(∀ q∈priv,(∀ o,h.get? q=some o->h'.get? q=some o)/\¬Av ρ' q)->Ok i ρ' h'
 item:∀ {i:Nat} {ρ:Rho} {H:Hp} {s:Shared} {m:Val} {Q:Value->Shared->Prop} {E E':Value->Shared->Prop} {QQ:Option Value->Shared->Prop},Rel H ρ s->Ok i ρ s.heap->ck H=true->xs[i]?=some m->(∀ q∈priv,cx.h₀.get? q=none) ->
  (∀ v s₁,wpAny (model cx.prog cx.w) A (letOwnedTupleGo target it v) (fun _ s₂=>Q v s₂) E' s₁->QQ (some v) s₁) ->
  (∀ v h' tk,Rel H ρ { s with heap:=h',toks:=tk }->Step ρ s.heap ρ h'->(∀ b o,b ∉ priv->¬Av ρ b->s.heap.get? b=some o->h'.get? b=some o)->E3 s.heap h'->VR ρ h' m v->Ok (i+1) ρ h'->Q v { s with heap:=h',toks:=tk }) ->
  wpAny (model cx.prog cx.w) A (pyNext it) QQ E s
 fin:∀ {i:Nat} {ρ:Rho} {H:Hp} {s:Shared} {Q:Option Value->Shared->Prop} {E:Value->Shared->Prop},Rel H ρ s->Ok i ρ s.heap->ck H=true->xs[i]?=none->(∀ q∈priv,cx.h₀.get? q=none) ->
  (∀ h' tk,Rel H ρ { s with heap:=h',toks:=tk }->Step ρ s.heap ρ h'->(∀ b o,b ∉ priv->¬Av ρ b->s.heap.get? b=some o->h'.get? b=some o)->Q none { s with heap:=h',toks:=tk }) ->
  wpAny (model cx.prog cx.w) A (pyNext it) Q E s
noncomputable def Vk(A:Around)(env:Env)(sc:Scope)(ns:List (Option Str))(target:Expr)(bind:Val->Env'->Option Env'):Prop :=
 ∀ (Γ Γ':Env') (H:Hp) (ρ:Rho) (s:Shared) (m:Val) (v:Value) (Q:Unit->Shared->Prop) (E:Value->Shared->Prop),bind m Γ=some Γ'->Rel H ρ s->EnvOk env sc ns Γ ρ s.heap->VR ρ s.heap m v ->
  (∀ h' tk,FullS env ρ s.heap ρ h'->Rel H ρ { s with heap:=h',toks:=tk }->EnvOk env sc ns Γ' ρ h'->Q () { s with heap:=h',toks:=tk })->wpAny (model cx.prog cx.w) A (assign target env v) Q E s
theorem Vl{i:Nat}{y:Str}{py:Pos}(ha:C4 ns)(ho:Fn sc ns i y=true):Vk A env sc ns (.Name y py) (Rw i):=by
 intro Γ Γ' H ρ s m v Q E hb R e0 vr k
 cases hb
 exact wpAny_assign_Name (D7 e0.len ha R e0 ho vr fun h' tk F R' e' _=>k h' tk F R' e')
theorem Sl{H:Hp}{c:Nat}{e:Value}{h:Heap}{ρ₀:Rho}{E:Value->Shared->Prop}(hfr:A.frames=some (env :: l))(R:Rel H ρ s)(fr:Aw (env :: l) ρ s.heap)(e0:EnvOk env sc ns Γ ρ s.heap)(lb:E3 cx.h₀ h)(F:FullS env ρ₀ h ρ s.heap)(fl:Flying ρ h s.heap c e)
 (k:∀ s',FullS env ρ₀ h ρ s'.heap->Rel H ρ s'->EnvOk env sc ns Γ ρ s'.heap->Flying ρ h s'.heap c e->E e s') :
 notedBy (model cx.prog cx.w) A env (fun e s'=>cameBackBy (model cx.prog cx.w) A env E e s') e s:=by
 refine Ae fun G kG=>?_
 refine Ac (fr env (.head _)) fun _ zz=>ex2 zz fun L _ zz=>Ac zz fun hf _=>?_
 refine kG ?_
 refine O9 hfr hf fr R lb F.live fl fun h1 o1 fl1=>Aco (s:={ s with heap:=h1 }) lb fl1 fun h2 o2 fl2=>?_
 have o:=o1.trans o2
 exact k { s with heap:=h2 } (o.fullS F) (o.rel R) (o.envK e0) fl2.to
theorem Q9{it:Value}{target:Expr}{xs:List Val}{ck:Hp->Bool}{bind:Val->Env'->Option Env'}{body:MSs}{stmts:List Stmt}{ρ₁:Rho}{s₁:Shared}(W:Walk A it target xs ck)(hfr:A.frames=some (env :: l))(hB:Vk A env sc ns target bind)
 (hb:Gx A (env :: l) env sc ns (execs stmts env) (execSs cx.T Φ body))
 (e1:EnvOk env sc ns Γ ρ₁ s₁.heap) (fr:Aw (env :: l) ρ₁ s₁.heap) (lvB:E3 cx.h₀ s₁.heap) (hpriv:∀ q∈W.priv,s₁.heap.get? q=none)
 {s:Shared} {H:Hp} {ρ:Rho} (F0:FullS env ρ₁ s₁.heap ρ s.heap) (R0:Rel H ρ s) (e0:EnvOk env sc ns Γ ρ s.heap) (ok:W.Ok 0 ρ s.heap) {Q:Flow->Shared->Prop} {E:Value->Shared->Prop}
 (nb:Fm ck bind (execSs cx.T Φ body) xs Γ H≠.bad) (p:Yv env sc ns ρ₁ s₁.heap (Fm ck bind (execSs cx.T Φ body) xs Γ H) Q E) :
 codeAny (model cx.prog cx.w) A (.forLoop target it stmts [] env) (fun r s'=>match r with | .ok f=>Q f s' | .error e=>cameBackBy (model cx.prog cx.w) A env E e s') s:=by
 generalize hres:Fm ck bind (execSs cx.T Φ body) xs Γ H=res at nb p
 refine codeAny_forLoop_any (fun n s=>∃ i Γ H ρ,FullS env ρ₁ s₁.heap ρ s.heap/\Rel H ρ s/\EnvOk env sc ns Γ ρ s.heap/\W.Ok i ρ s.heap/\i<=xs.length/\n=xs.length+1 - i/\Fm ck bind (execSs cx.T Φ body) (xs.drop i) Γ H=res) ?_ (xs.length+1)
  ⟨0,Γ,H,ρ,F0,R0,e0,ok,Nat.zero_le _,rfl,hres⟩
 have privB:∀ q∈W.priv,cx.h₀.get? q=none:=fun q hq=>lvB.none (hpriv q hq)
 clear F0 R0 e0 ok hres
 intro n s zz
 refine ex4 zz fun i Γ H ρ zz=>Ov zz fun F R e0 ok hi hr0 hr=>?_
 cases hx:xs[i]? with
 | none =>
  rw [List.drop_eq_nil_of_le (List.getElem?_eq_none_iff.mp hx)] at hr
  rw [Nk] at hr
  by_cases ckh:ck H=true
  · rw [if_pos ckh] at hr
    subst hr
    refine W.fin R ok ckh hx privB fun h' tk R' st ex=>?_
    refine wpAny_execs_nil ?_
    have e':EnvOk env sc ns Γ ρ h':=e0.priv ex (fun q hq=>(W.obj ok q hq).1) st
    have F':FullS env ρ₁ s₁.heap ρ h':=by
     refine ⟨F.grow,fun b o e n n1 n2=>?_,fun b o e=>?_⟩
     · refine ex1 (F.keep b o e n n1 n2) fun o' zz=>Ac zz fun eo' u=>?_
       exact ⟨o',ex b o' (fun w=>by rw [hpriv b w] at e;cases e) (F.grow.not n e) eo',u⟩
     · by_cases ow:Av ρ b
       · exact R'.owned_lt ow
       · obtain ⟨o',eo'⟩:=F.live b o e
         exact ⟨o',ex b o' (fun w=>by rw [hpriv b w] at e;cases e) ow eo'⟩
    exact p _ ρ F' R' e'
  · rw [if_neg ckh] at hr;exact absurd hr.symm nb
 | some m =>
  have lt:i < xs.length:=(List.getElem?_eq_some_iff.mp hx).1
  have hdrop:xs.drop i=m :: xs.drop (i+1):=by
   rw [List.drop_eq_getElem_cons lt]
   rw [List.getElem?_eq_getElem lt] at hx
   cases hx;rfl
  rw [hdrop] at hr
  rw [Kv] at hr
  by_cases ckh:ck H=true
  · rw [if_pos ckh] at hr
    cases hbd:bind m Γ with
    | none=>rw [hbd] at hr;exact absurd hr.symm nb
    | some Γ1 =>
     rw [hbd] at hr
     dsimp only at hr
     refine W.item R ok ckh hx privB (fun v s₁ h=>h) fun v h' tk R' st ex lv vr ok'=>?_
     · -- what comes behind the item
       have e':EnvOk env sc ns Γ ρ h':=e0.priv ex (fun q hq=>(W.obj ok q hq).1) st
       have F':FullS env ρ₁ s₁.heap ρ h':=F.fresh hpriv ex lv
       refine hB Γ Γ1 H ρ { s with heap:=h',toks:=tk } m v _ _ hbd R' e' vr fun h2 tk2 F2 R2 e2=>?_
       have F12:FullS env ρ₁ s₁.heap ρ h2:=F'.trans F2
       have priv2:∀ q∈W.priv,(∀ o,h'.get? q=some o->h2.get? q=some o)/\¬Av ρ q:=fun q hq=>by
        obtain ⟨⟨o,eo,io⟩,no⟩:=W.obj ok' q hq
        refine ⟨fun o2 eo2=>?_,no⟩
        rw [eo] at eo2;cases eo2
        refine ex1 (F2.keep q o eo no (e'.st.notLoc eo io.notDict) (e'.st.notCell eo io.notCell)) fun o3 zz=>Ac zz fun eo3 u=>?_
        rw [eo3,u.exact io.notDict]
       have ok2:W.Ok (i+1) ρ h2:=W.step ok' (FullS.step e'.st F2) priv2
       have fr2:Aw (env :: l) ρ h2:=fr.stmt F12 e1.st e2.st
       have B:=hb Γ1 H ρ { s with heap:=h2,toks:=tk2 } R2 e2 fr2
       cases hbody:execSs cx.T Φ body Γ1 H with
       | bad=>rw [hbody] at hr;exact absurd hr.symm nb
       | next Γ3 H3 =>
        rw [hbody] at hr B
        dsimp only [Nj] at hr
        refine zE B (fun f s3 q=>?_) fun _ _ q=>q.elim
        refine Ac q fun zr0 zz=>ex1 zz fun ρ3 zz=>Ap zz fun F3 R3 e3=>?_;subst zr0
        refine ⟨xs.length+1 - (i+1),by exact Ahc lt hr0,i+1,Γ3,H3,ρ3,F12.trans F3,R3,e3,?_,lt,rfl,hr⟩
        refine W.step ok2 (FullS.step e2.st F3) fun q hq=>?_
        refine Ae fun G kG=>?_
        obtain ⟨⟨o,eo,io⟩,no⟩:=W.obj ok2 q hq
        refine kG ?_
        refine ⟨fun o2 eo2=>?_,F3.grow.not no eo⟩
        rw [eo] at eo2;cases eo2
        refine ex1 (F3.keep q o eo no (e2.st.notLoc eo io.notDict) (e2.st.notCell eo io.notCell)) fun o3 zz=>Ac zz fun eo3 u=>?_
        rw [eo3,u.exact io.notDict]
       | ret v3 H3 =>
        rw [hbody] at hr B
        dsimp only [Nj] at hr
        subst hr
        refine zE B (fun f s3 q=>?_) fun _ _ q=>q.elim
        refine Ae fun G kG=>?_
        refine ex2 q fun v' ρ3 zz=>Cl zz fun zr2 F3 R3 vr3=>?_;subst zr2
        refine kG ?_
        exact p s3 ρ3 v' (F12.trans F3) R3 vr3
       | exc c3 Γ3 H3 =>
        rw [hbody] at hr B
        dsimp only [Nj] at hr
        subst hr
        refine zE B (fun _ _ q=>q.elim) fun e s3 ⟨ρ3,F3,R3,e3,fl⟩=>?_
        exact Sl hfr R3 (fr.stmt (F12.trans F3) e1.st e3.st) e3 lvB (F12.trans F3) (fl.older F12.live) fun s4 F4 R4 e4 fl4=>p e s4 ρ3 F4 R4 e4 fl4
  · rw [if_neg ckh] at hr;exact absurd hr.symm nb
noncomputable def Vm(hh:A.handled=none)(xs:List Val)(I:Addr)(src:Option Nat)(y:Str)(py:Pos):Walk A (.ref I) (.Name y py) xs (chk src xs) where
 Ok i ρ h:=ItOk xs I i ρ h src/\¬Av ρ I
 priv:=[I]
 obj:=fun ⟨h1,h2⟩ q hq=>by rw [List.mem_singleton.mp hq];exact ⟨h1.obj,h2⟩
 step:=fun ⟨h1,h2⟩ st k=>⟨h1.step st (k I (.head _)).1,(k I (.head _)).2⟩
 item:=by
  intro i ρ H s m Q E E' QQ R ⟨ok,no⟩ ck hx hb qq k
  refine ex1 ok.obj fun o zz=>Ac zz fun e io=>?_
  refine N0 R ok ck hx fun v h' tk hs hl kk=>qq v _ ?_
  obtain ⟨o',e'⟩:=hl
  have st:Step ρ s.heap ρ h':=Step.but e' e hs io.not.1 io.not.2
  obtain ⟨vr,ok'⟩:=kk st
  refine zH (k v h' tk (R.but e' e hs io.not.1 io.not.2 no (hb I (.head _))) st (fun b o nb _ eb=>by rw [hs.2 b (fun w=>nb (w▸.head _))];exact eb) (SameBut.live hs e') vr ⟨ok',no⟩)
 fin:=by
  intro i ρ H s Q E R ⟨ok,no⟩ ck hx hb k
  refine ex1 ok.obj fun o zz=>Ac zz fun e io=>?_
  refine Qt hh R ok ck hx fun h' tk he=>?_
  exact k h' tk (R.ext e he io.not.1 io.not.2 no (hb I (.head _))) (Step.ext e he io.not.1 io.not.2) fun b o nb _ eb=>he b o (fun w=>nb (w▸.head _)) eb
theorem Hs{E E':Value->Shared->Prop}{e:Value}{M:Model}(h:cameBackBy M A env E e s)(k:∀ e s,E e s->E' e s):cameBackBy M A env E' e s:=zE h (fun _ _=>k _ _) k
theorem Yw{i:Nat}{it:ME}{body:MSs}{y:Str}{x:Expr}{stmts:List Stmt}{py pos:Pos}(hh:A.handled=none)(hfr:A.frames=some (env :: l))(ha:C4 ns)(ho:Fn sc ns i y=true)(hn:Ec x=true)
 (hx:∀ Γ:Env',Γ.length=ns.length->EOk A ((Amb.env env sc ns Γ).and (Amb.frames (env :: l))) Φ env Γ it x) (hb:Gx A (env :: l) env sc ns (execs stmts env) (execSs cx.T Φ body)) :
 Gx A (env :: l) env sc ns (exec (.For (.Name y py) x stmts [] pos) env) (Da cx.T Φ (.each i it body)):=by
 intro Γ H ρ s R e0 fr
 refine Bw.to ?_
 refine Bs.bindK (K:=fun xv Q E s=>wpAny (model cx.prog cx.w) A (pyIter xv) (fun it s₂=>codeAny (model cx.prog cx.w) A (.forLoop (.Name y py) it stmts [] env) (fun r s'=>match r with | .ok f=>Q f s' | .error e=>cameBackBy (model cx.prog cx.w) A env E e s') s₂) E s) e0 ((hx Γ e0.len).val H ρ s R ⟨e0,fr⟩) ?_ ?_ ?_
 · intro v xv H1 ρ1 s1 _ F1 R1 e1 vr
   refine Bw.look fun pr hp=>?_
   obtain ⟨xs,src⟩:=pr
   refine Bw.ofPost fun Q E nb p=>?_
   refine Lb R1 vr hp fun o go it0=>?_
   have F2:Full ρ1 s1.heap ρ1 (s1.heap.push o):=Full.push _ _ _
   exact Q9 (Vm hh xs s1.heap.objs.size src y py) hfr (Vl ha ho) hb e1 ((Amb.frames (env :: l)).st _ _ _ _ fr F1) (fun b o e=>⟨o,R1.base b o e⟩) (fun q hq=>by rw [List.mem_singleton.mp hq];exact Am _) F2.toS (R1.push o s1.toks) (e1.full F2) ⟨it0,R1.fresh_not (Am _)⟩ nb p
 · intro xv Q E Q' E' s h k1 k2
   exact zE h (fun it s₂ h2=>codeAny_mono h2 fun r s' hr=>by
    cases r with
    | ok f=>exact k1 _ _ hr
    | error e=>exact Hs hr k2) k2
 · intro Q E h
   exact wpAny_For h (fun xv=>Fw hn env xv)
end
section
variable{A:Around}{Φ:Funs}{l:List Env}{d:Nat}{env:Env}{sc:Scope}{ns:List (Option Str)}{Γ:Env'}{H:Hp}{ρ ρ':Rho}{s:Shared}
theorem Rel.turn(R:Rel H ρ s){l:Nat}{p:Addr × Addr}{o:HObj}{h':Heap}{tk:Nat}(hl:ρ[l]?=some p)(hp:H[l]?=some o)(k:∀ b ob,s.heap.get? b=some ob->Av ρ b->b≠p.1->b≠p.2->h'.get? b=some ob)(st:Step ρ s.heap ρ h')(kb:∀ b o,cx.h₀.get? b=some o->h'.get? b=some o)(x:HR ρ h' o p) :
 Rel H ρ { s with heap:=h',toks:=tk }:=by
 refine ⟨R.len,fun i ob q hi hq=>?_,R.apart,R.new,kb,R.sys,?_⟩
 · by_cases e:i=l
   · subst e
     rw [hl] at hq;cases hq
     rw [hp] at hi;cases hi
     exact x
   · refine (R.objs i ob q hi hq).step st fun b ob' hb eb=>?_
     refine Ap (R.apart i l q p e hq hl) fun zn0 a3 a4=>?_;obtain ⟨a1,a2⟩:=zn0
     have ow:Av ρ b:=⟨q,zF hq,hb⟩
     rcases hb with rfl | rfl
     · exact k _ _ eb ow a1 a2
     · exact k _ _ eb ow a3 a4
 · refine ex2 R.rest fun h t hr0=>?_;refine Eq.symm hr0▸?_
   exact ⟨h',tk,rfl⟩
theorem Vn(hh:A.handled=none){i j:Nat}{y z:Str}{py pz pt:Pos}{k:Nat}(ha:C4 ns)(hy:Fn sc ns i y=true)(hz:Fn sc ns j z=true):Vk A env sc ns (.Tuple [.Name y py,.Name z pz] k pt) (Abq i j):=by
 intro Γ Γ' H ρ s m v Q E hb R e0 vr kk
 refine ex1 (Option.map_eq_some_iff.mp hb) fun zn0 zz=>Ac zz fun e1 hb=>?_;obtain ⟨a,b⟩:=zn0
 cases To e1
 cases hb
 · cases vr with
   | @tup t vs n ms g no zz r =>
    cases r with
    | @cons _ va _ _ ra r =>
     cases r with
     | @cons _ vb _ _ rb r =>
      cases r
      refine wpAny_assign_Tuple (items:=[va,vb].toArray) hh ⟨_,g,rfl,n,rfl⟩ rfl rfl fun h1 ex=>?_
      have kp:∀ b o,s.heap.get? b=some o->h1.get? b=some o:=fun b o e=>ex b o (Nat.ne_of_lt (Heap.lt_size e)) e
      have F1:Full ρ s.heap ρ h1:=Full.more kp
      have R1:Rel H ρ { s with heap:=h1 }:=R.more (tk:=s.toks) kp
      refine wpAny_assignInOrder_more (wpAny_assign_Name (D7 (s:={ s with heap:=h1 }) (e0.full F1).len ha R1 (e0.full F1) hy (ra.step F1.step) fun h2 tk2 F2 R2 e2 _=>?_))
      have St2:=FullS.step (e0.full F1).st F2
      refine wpAny_assignInOrder_more (wpAny_assign_Name (D7 (s:={ s with heap:=h2,toks:=tk2 }) e2.len ha R2 e2 hz ((rb.step F1.step).step St2) fun h3 tk3 F3 R3 e3 _=>?_))
      exact wpAny_assignInOrder_none (kk h3 tk3 ((F1.toS.trans F2).trans F3) R3 e3)
theorem Ag3{h:Heap}{z TI TO:Addr}{f:Value}(x:IsZip h z TI TO f):∃ o,h.get? z=some o/\Go o:=⟨_,x,⟨_,rfl⟩,_,rfl,by decide⟩
theorem N4{h:Heap}{i l:Addr}{k:Nat}(x:h.IsListIter i l k):∃ o,h.get? i=some o/\Go o:=by refine ex1 x fun o zz=>Ap zz fun e c d=>?_;exact ⟨o,e,⟨_,d⟩,_,c,by decide⟩
theorem Ht{h:Heap}{a b:Addr}{o:Obj}(x:∃ o,h.get? a=some o/\Go o)(e:h.get? b=some o)(n:∀ vs,o.data≠.fields vs):a≠b:=fun w=>by
 refine ex1 x fun o' zz=>Ac zz fun e' zz=>Ac zz fun zn2 _=>?_;obtain ⟨vs,d⟩:=zn2
 rw [w,e] at e';cases e'
 exact n vs d
noncomputable def Fy(_:Bool)(h:Heap)(I a:Addr)(k:Nat)(items:Array Value):Prop:=h.IsListIter I a k/\h.IsList a items
section
variable{b:Bool}{h h':Heap}{I a c:Addr}{k:Nat}{items:Array Value}
theorem Fy.ext(x:Fy b h I a k items)(hs:Heap.ExtBut c h h')(n1:I≠c)(n2:a≠c):Fy b h' I a k items:=⟨x.1.extBut hs n1,x.2.extBut hs n2⟩
theorem Fy.obj(x:Fy b h I a k items):∃ o,h.get? I=some o/\Go o:=N4 x.1
theorem Fy.ne(x:Fy b h I a k items):a≠I:=fun w=>by
 refine ex1 x.2 fun o' zz=>Ap zz fun e' c zz=>ex1 zz fun n d'=>?_
 exact Ht x.obj e' (fun vs q=>by rw [d'] at q;cases q) w.symm
end
theorem N5{b:Bool}{I a:Addr}{k:Nat}{items:Array Value}{x:Value}{Q:Value->Shared->Prop}{E:Value->Shared->Prop}(it:Fy b s.heap I a k items)(hx:items[k]?=some x)
 (hQ:∀ h',Fy b h' I a (k+1) items->Heap.SameBut I s.heap h'->Q x { s with heap:=h' }):wpAny (model cx.prog cx.w) A (Builtin.SmallTypes.nextOf (.ref I)) Q E s :=
 wpAny_nextOf_list_item it.1 it.2 hx fun h' i' hs=>hQ h' ⟨i',it.2.extBut hs.extBut it.ne⟩ hs
theorem Yx{b:Bool}{I a:Addr}{k:Nat}{items:Array Value}{Q:Value->Shared->Prop}{E:Value->Shared->Prop}(hh:A.handled=none)(it:Fy b s.heap I a k items)(hx:items[k]?=none)
 (hE:∀ h' e,Heap.ExtBut I s.heap h'->(∃ o,h'.get? e=some o/\o.cls=.type "StopIteration")->E (.ref e) { s with heap:=h' }):wpAny (model cx.prog cx.w) A (Builtin.SmallTypes.nextOf (.ref I)) Q E s :=
 wpAny_nextOf_list_end hh it.1 it.2 hx hE
theorem Yy{b1 b2:Bool}{z TI TO i1 i2 a1 a2:Addr}{k1 k2:Nat}{xs ys:Array Value}{x y u v:Value}{Q:Option Value->Shared->Prop}{E:Value->Shared->Prop}(D:ZipApart z TI TO i1 i2 a1 a2)
 (hz:IsZip s.heap z TI TO .none) (hTI:IsPair s.heap TI (.ref i1) (.ref i2)) (hTO:IsPair s.heap TO u v) (h1:Fy b1 s.heap i1 a1 k1 xs) (h2:Fy b2 s.heap i2 a2 k2 ys) (hx:xs[k1]?=some x) (hy:ys[k2]?=some y)
 (hQ:∀ h',IsZip h' z TI TO (rawInt s.heap.objs.size)->IsPair h' TO x y->Fy b1 h' i1 a1 (k1+1) xs->Fy b2 h' i2 a2 (k2+1) ys->IsPair h' s.heap.objs.size x y ->
  (∀ c o,c≠z->c≠TO->c≠i1->c≠i2->s.heap.get? c=some o->h'.get? c=some o)->Q (some (.ref s.heap.objs.size)) { s with heap:=h' }):wpAny (model cx.prog cx.w) A (pyNext (.ref z)) Q E s:=by
 have hT:s.TypeIs (.ref z) "zip":=⟨_,hz,rfl⟩
 unfold pyNext
 refine zB (wpAny_attempt (wpAny_callSpecial?_slot (name:=Str.ofString "__next__") hT F.slot_zip_next (wpAny_call_entry F.slot_zip_next hT F.entry_zip_next ?_ (F.args_zip_next_1 _))))
 show wpAny _ _ (field (.ref z) 2>>=_) _ _ _
 refine zB (wpAny_field hz rfl (x:=.bool false) rfl ?_)
 refine zB (wpAny_field hz rfl (x:=.ref TI) rfl ?_)
 refine zB (wpAny_seqItems hTI rfl ?_)
 refine zB ?_
 unfold Builtin.SmallTypes.ownedTupleIsFree
 refine zB (wpAny_field hz rfl (x:=.none) rfl (zH ?_))
 simp only [if_true]
 refine zB (wpAny_rule ?_)
 refine zB (wpAny_field hz rfl (x:=.ref TO) rfl ?_)
 refine zB (wpAny_setField_rec hz (by simp) fun ha za sa=>?_)
 replace za:IsZip ha z TI TO .ellipsis:=za
 refine zB ?_
 simp only [List.zipIdx_cons,List.zipIdx_nil,List.forIn_cons,List.forIn_nil]
 refine zB (zB (wpAny_onRaise ?_))
 refine zB (N5 (h1.ext sa.extBut D.i1z D.l1z) hx fun hb ib sb=>zH ?_)
 have tb:IsPair hb TO u v:=sb.extBut _ _ D.TOi1 (sa.extBut _ _ D.TOz hTO)
 refine zB (wpAny_seqItems tb rfl ?_)
 refine zB (wpAny_updateSeq_pair tb fun hc tc sc=>?_)
 replace tc:IsPair hc TO x v:=tc
 refine zB (wpAny_letGo (zH ?_))
 refine zB (zB (wpAny_onRaise ?_))
 refine zB (N5 (((h2.ext sa.extBut D.i2z D.l2z).ext sb.extBut D.i12.symm D.l2i1).ext sc.extBut D.TOi2.symm D.l2TO) hy fun hd id_ sd=>zH ?_)
 have td:IsPair hd TO x v:=sd.extBut _ _ D.TOi2 tc
 refine zB (wpAny_seqItems td rfl ?_)
 refine zB (wpAny_updateSeq_pair td fun he te se=>?_)
 replace te:IsPair he TO x y:=te
 refine zB (wpAny_letGo (zH (zH ?_)))
 refine zB (wpAny_seqItems te rfl ?_)
 refine zB (wpAny_newTuple ?_)
 have sz:he.objs.size=s.heap.objs.size:=by rw [se.1,sd.1,sc.1,sb.1,sa.1]
 have ze:IsZip he z TI TO .ellipsis:=se.extBut _ _ D.TOz.symm (sd.extBut _ _ D.i2z.symm (sc.extBut _ _ D.TOz.symm (sb.extBut _ _ D.i1z.symm za)))
 have lz:z < he.objs.size:=Heap.lt_size ze
 refine zB ?_
 unfold Builtin.SmallTypes.ownedTupleHandOut
 have zf:IsZip (he.push { cls:=.type "tuple",data:=.seq #[x,y] }) z TI TO .ellipsis:=Heap.get?_push_of_some _ ze
 refine zB (wpAny_setField_rec zf (by simp) fun hg zg sg=>?_)
 replace zg:IsZip hg z TI TO (rawInt he.objs.size):=zg
 refine wpAny_setField_rec zg (by simp) fun hf zh sh=>?_
 replace zh:IsZip hf z TI TO (rawInt he.objs.size):=zh
 have up:Heap.ExtBut z he hf:=fun c o c1 e=>sh.extBut _ _ c1 (sg.extBut _ _ c1 (Heap.get?_push_of_some _ e))
 have tn:IsPair hf he.objs.size x y:=sh.extBut _ _ (Nat.ne_of_gt lz) (sg.extBut _ _ (Nat.ne_of_gt lz) (Heap.get?_push_size _ rfl))
 have i1e:=(((ib.ext sc.extBut D.TOi1.symm D.l1TO).ext sd.extBut D.i12 D.l1i2).ext se.extBut D.TOi1.symm D.l1TO).ext up D.i1z D.l1z
 have i2e:=(id_.ext se.extBut D.TOi2.symm D.l2TO).ext up D.i2z D.l2z
 rw [sz] at zh tn
 refine zH ⟨_,rfl,zH ?_⟩
 rw [sz]
 exact hQ hf zh (up _ _ D.TOz te) i1e i2e tn fun c o c1 c2 c3 c4 e=>up c o c1 (se.extBut _ _ c2 (sd.extBut _ _ c4 (sc.extBut _ _ c2 (sb.extBut _ _ c3 (sa.extBut _ _ c1 e)))))
theorem Yz{b:Bool}{z TI TO i1 i2 a1:Addr}{k1:Nat}{xs:Array Value}{Q:Option Value->Shared->Prop}{E:Value->Shared->Prop}(hh:A.handled=none)(n1:i1≠z)(n2:a1≠z)(hz:IsZip s.heap z TI TO .none)(hTI:IsPair s.heap TI (.ref i1) (.ref i2))
 (h1:Fy b s.heap i1 a1 k1 xs) (hend:xs[k1]?=none)
 (hQ:∀ h',(∀ c o,c≠z->c≠i1->s.heap.get? c=some o->h'.get? c=some o)->Q none { s with heap:=h' }):wpAny (model cx.prog cx.w) A (pyNext (.ref z)) Q E s:=by
 have hT:s.TypeIs (.ref z) "zip":=⟨_,hz,rfl⟩
 have Dz:wpAny (model cx.prog cx.w) A.in1 (Builtin.«zip.__next__» ⟨[.ref z],[]⟩) (fun _ _=>False) (fun e s'=>(∃ o a,e=.ref a/\s'.heap.get? a=some o/\o.cls=.type "StopIteration")/\∃ h',s'={ s with heap:=h' }/\(∀ c o,c≠z->c≠i1->s.heap.get? c=some o->h'.get? c=some o)) s:=by
  show wpAny _ _ (field (.ref z) 2>>=_) _ _ _
  refine zB (wpAny_field hz rfl (x:=.bool false) rfl ?_)
  refine zB (wpAny_field hz rfl (x:=.ref TI) rfl ?_)
  refine zB (wpAny_seqItems hTI rfl ?_)
  refine zB ?_
  unfold Builtin.SmallTypes.ownedTupleIsFree
  refine zB (wpAny_field hz rfl (x:=.none) rfl (zH ?_))
  simp only [if_true]
  refine zB (wpAny_rule ?_)
  refine zB (wpAny_field hz rfl (x:=.ref TO) rfl ?_)
  refine zB (wpAny_setField_rec hz (by simp) fun ha za sa=>?_)
  replace za:IsZip ha z TI TO .ellipsis:=za
  refine zB ?_
  simp only [List.zipIdx_cons,List.zipIdx_nil,List.forIn_cons,List.forIn_nil]
  refine zB (zB (wpAny_onRaise ?_))
  refine zB (Yx hh (h1.ext sa.extBut n1 n2) hend fun hb e sb he=>?_)
  refine ex1 he fun oe zz=>Ac zz fun hoe hce=>?_
  have zb:IsZip hb z TI TO .ellipsis:=sb _ _ n1.symm za
  have hez:e≠z:=fun x=>by subst x;rw [zb] at hoe;cases hoe;simp at hce
  refine wpAny_setField_rec zb (by simp) fun hc _ sc=>⟨⟨oe,e,rfl,sc.extBut _ _ hez hoe,hce⟩,hc,rfl,fun c o c1 c2 x=>sc.extBut _ _ c1 (sb _ _ c2 (sa.extBut _ _ c1 x))⟩
 unfold pyNext
 refine zB (wpAny_attempt (wpAny_callSpecial?_slot (name:=Str.ofString "__next__") hT F.slot_zip_next
  (wpAny_call_entry F.slot_zip_next hT F.entry_zip_next (zE Dz (fun _ _ q=>q.elim) fun e s' q=>?_) (F.args_zip_next_1 _))))
 refine Ac q fun zn0 zz=>ex1 zz fun h' zz=>Ac zz fun zr2 hk=>?_;obtain ⟨o,a,rfl,ho,hc⟩:=zn0;subst zr2
 refine zB (wpAny_isInstance (T:="StopIteration") (b:=true) ⟨o,ho,hc⟩ isSubtype_stop ?_)
 exact zH (hQ _ hk)
theorem Y0{l:Nat}{H:Hp}(h:Nm l H=true):H[l]?=some .hid:=by
 unfold Nm at h
 split at h
 · assumption
 · exact Al h
theorem Lh:∀ {xs ys:List Val} {i:Nat} {m:Val},(Dw xs ys)[i]?=some m->∃ a b,xs[i]?=some a/\ys[i]?=some b/\m=.tup [a,b]
 | [],_,_,_,h=>by simp [Dw] at h
 | _ :: _,[],_,_,h=>by simp [Dw] at h
 | a :: xs,b :: ys,0,m,h=>by simp [Dw] at h;exact ⟨a,b,rfl,rfl,h.symm⟩
 | a :: xs,b :: ys,i+1,m,h=>by
  have h':(Dw xs ys)[i]?=some m:=by simpa [Dw] using h
  refine Ae fun G kG=>?_
  refine ex2 (Lh h') fun a' b' zz=>Ap zz fun h1 h2 h3=>?_
  refine kG ?_
  exact ⟨a',b',by simpa using h1,by simpa using h2,h3⟩
theorem J7:∀ {xs ys:List Val} {i:Nat},xs.length=ys.length->(Dw xs ys)[i]?=none->xs[i]?=none
 | [],_,_,_,_=>by simp
 | _ :: _,[],_,hl,_=>by simp at hl
 | a :: xs,b :: ys,0,_,h=>by simp [Dw] at h
 | a :: xs,b :: ys,i+1,hl,h=>by simp [Dw] at h ⊢;have:=J7 (by simpa using hl) (by simpa using h);simpa using this
theorem Rel.hidAt(R:Rel H ρ s){l:Nat}{p:Addr × Addr}(hH:H[l]?=some .hid)(hρ:ρ[l]?=some p):p.2=p.1/\∃ x y,s.heap.get? p.1=some (Qh [x,y] 0):=by
 have:=R.objs l _ p hH hρ
 generalize ho:HObj.hid=o at this
 cases this with
 | list e r z=>exact nomatch ho
 | dict d r z=>cases ho
 | inst _ _ _ _ _ _ _ _ _ _=>cases ho
 | hid e=>exact ⟨rfl,_,_,e⟩
theorem N6{h h':Heap}{qs:List Addr}(hq:∀ q∈qs,Av ρ q\/∃ o,h.get? q=some o/\Go o)(k:∀ b o,b ∉ qs->h.get? b=some o->h'.get? b=some o):Step ρ h ρ h':=by
 refine ⟨⟨[],by simp⟩,fun b o e f n=>⟨k b o (fun w=>?_) e,n⟩,fun b o C e f n=>⟨o,k b o (fun w=>?_) e,f,n⟩⟩
 · rcases hq b w with w | ⟨o',e',io⟩
   · exact n w
   · rw [e] at e';cases e';exact io.not.1 f
 · rcases hq b w with w | ⟨o',e',io⟩
   · exact n w
   · rw [e] at e';cases e';exact io.not.2 C f
inductive ZIt(xs:List Val)(I:Addr)(i:Nat)(ρ:Rho)(h:Heap):Option Nat->Prop
 | list {l:Nat} {p:Addr × Addr}:ρ[l]?=some p->h.IsListIter I p.1 i->ZIt xs I i ρ h (some l)
section
variable{xs:List Val}{I:Addr}{i:Nat}{src:Option Nat}
theorem ZIt.obj{h:Heap}(x:ZIt xs I i ρ h src):∃ o,h.get? I=some o/\Go o:=by
 cases x with
 | list hp hi=>exact N4 hi
theorem ZIt.step{h h':Heap}(x:ZIt xs I i ρ h src)(st:Step ρ h ρ' h')(k:∀ o,h.get? I=some o->h'.get? I=some o):ZIt xs I i ρ' h' src:=by
 cases x with
 | list hp hi=>exact .list (st.get hp) (hi.at k)
theorem ZIt.raw(R:Rel H ρ s)(x:ZIt xs I i ρ s.heap src)(ck:chk src xs H=true):∃ (b:Bool) (a:Addr) (vs:List Value),Fy b s.heap I a i vs.toArray/\VRs ρ s.heap xs vs/\(∀ c,(∃ o,s.heap.get? c=some o/\Go o)->a≠c) /\
 (∀ (hl:Nat) (TO:Addr),H[hl]?=some HObj.hid->ρ[hl]?=some (TO,TO)->a≠TO)/\∀ h',Step ρ s.heap ρ h'->Fy b h' I a (i+1) vs.toArray->ZIt xs I (i+1) ρ h' src:=by
 cases x with
 | @list l p hp hi =>
  have H1:=Tq ck
  refine Ae fun G kG=>?_
  refine ex2 (R.listAt H1 hp) fun vs n zz=>Cl zz fun _ g r z=>?_
  refine kG ?_
  exact ⟨true,p.1,vs,⟨hi,_,g,rfl,n,rfl⟩,r,fun c x=>(Ht x g fun _ q=>by cases q).symm,fun hl TO e1 e2=>(R.apart l hl _ _ (fun w=>by rw [w,e1] at H1;exact nomatch H1) hp e2).1.1,fun h' st x=>.list hp x.1⟩
end
structure ZOk(xs ys:List Val)(l1 l2:Option Nat)(hl:Nat)(z TI i1 i2:Addr)(i:Nat)(ρ:Rho)(h:Heap):Prop where
 zip:∃ TO,ρ[hl]?=some (TO,TO)/\IsZip h z TI TO .none
 ti:h.get? TI=some (Qh [.ref i1,.ref i2] 0)/\¬Av ρ TI
 it1:ZIt xs i1 i ρ h l1
 it2:ZIt ys i2 i ρ h l2
 no:¬Av ρ z/\¬Av ρ i1/\¬Av ρ i2
noncomputable def Ac3(hh:A.handled=none)(xs ys:List Val)(hlen:xs.length=ys.length)(l1 l2:Option Nat)(hl:Nat)(z TI i1 i2:Addr)(n1:i1≠z)(n2:i2≠z)(n12:i1≠i2)(elts:List Expr)(k:Nat)(pt:Pos) :
 Walk A (.ref z) (.Tuple elts k pt) (Dw xs ys) (fun H'=>chk l1 xs H' && chk l2 ys H' && Nm hl H') where
 Ok i ρ h:=ZOk xs ys l1 l2 hl z TI i1 i2 i ρ h
 priv:=[z,i1,i2]
 obj:=by
  intro i ρ h ok q hq
  refine ex1 ok.zip fun TO zz=>Ac zz fun _ hz=>?_
  simp only [List.mem_cons,List.not_mem_nil,or_false] at hq
  rcases hq with rfl | rfl | rfl
  · exact ⟨Ag3 hz,ok.no.1⟩
  · exact ⟨ok.it1.obj,ok.no.2.1⟩
  · exact ⟨ok.it2.obj,ok.no.2.2⟩
 step:=by
  intro i ρ h ρ' h' ok st kk
  refine ex1 ok.zip fun TO zz=>Ac zz fun ht hz=>?_
  have kz:=kk z (by simp)
  have k1:=kk i1 (by simp)
  have k2:=kk i2 (by simp)
  have kt:=st.keepT _ _ ok.ti.1 (.inl ⟨rfl,_,_,rfl⟩) ok.ti.2
  exact ⟨⟨TO,st.get ht,kz.1 _ hz⟩,kt,ok.it1.step st k1.1,ok.it2.step st k2.1,kz.2,k1.2,k2.2⟩
 item:=by
  intro i ρ H s m Q E E' QQ R ok ck hx hb qq kk
  simp only [Bool.and_eq_true] at ck
  refine Ae fun G kG=>?_
  obtain ⟨⟨ck1,ck2⟩,ck3⟩:=ck
  refine ex1 ok.zip fun TO zz=>Ac zz fun ht hz=>?_
  have H3:=Y0 ck3
  refine ex3 (ok.it1.raw R ck1) fun b1 a1 vs zz=>Ep zz fun w1 r1 ne1 nt1 up1=>?_
  refine ex3 (ok.it2.raw R ck2) fun b2 a2 ws zz=>Ep zz fun w2 r2 ne2 nt2 up2=>?_
  refine Ac (R.hidAt H3 ht) fun _ zz=>ex2 zz fun x0 y0 gTO=>?_
  refine ex2 (Lh hx) fun a b zz=>Ap zz fun ha hb' zr4=>?_;subst zr4
  refine ex1 (r1.get ha) fun va zz=>Ac zz fun eva ra=>?_
  refine ex1 (r2.get hb') fun vb zz=>Ac zz fun evb rb=>?_
  refine kG ?_
  have oTO:Av ρ TO:=⟨_,zF ht,.inl rfl⟩
  have ne:∀ {u v:Addr},¬Av ρ u->Av ρ v->v≠u:=fun n o w=>n (w▸o)
  have tiD:∀ vs',(Qh [Value.ref i1,Value.ref i2] 0).data≠.fields vs':=fun vs' q=>by cases q
  have oz:=Ag3 hz
  have o1:=ok.it1.obj
  have o2:=ok.it2.obj
  have D:ZipApart z TI TO i1 i2 a1 a2:=⟨(Ht oz ok.ti.1 tiD).symm,ne ok.no.1 oTO,n1,n2,(ne ok.ti.2 oTO).symm,(Ht o1 ok.ti.1 tiD).symm,(Ht o2 ok.ti.1 tiD).symm,ne ok.no.2.1 oTO,ne ok.no.2.2 oTO,n12,
   ne1 z oz,nt1 hl TO H3 ht,ne1 i1 o1,ne1 i2 o2,ne2 z oz,nt2 hl TO H3 ht,ne2 i1 o1,ne2 i2 o2⟩
  refine Yy (x:=va) (y:=vb) D hz ok.ti.1 gTO w1 w2 (by simpa using eva) (by simpa using evb) fun h1 hz1 hTO1 w1' w2' hT1 hk1=>qq _ _ ?_
  refine wpAny_letOwnedTupleGo_zip hz1 fun h2 hz2 hs2=>?_
  have zT:s.heap.objs.size≠z:=fun w=>by have:=Heap.lt_size hz;rw [<- w] at this;exact Nat.lt_irrefl _ this
  have keep:∀ b o,b ∉ [z,i1,i2,TO]->s.heap.get? b=some o->h2.get? b=some o:=fun b o nb eb=>by
   simp only [List.mem_cons,List.not_mem_nil,or_false,not_or] at nb
   exact hs2.extBut _ _ nb.1 (hk1 b o nb.1 nb.2.2.2 nb.2.1 nb.2.2.1 eb)
  have hTO2:h2.get? TO=some (Qh [va,vb] 0):=hs2.extBut _ _ D.TOz hTO1
  have hT2:h2.get? s.heap.objs.size=some (Qh [va,vb] 0):=hs2.extBut _ _ zT hT1
  have w1'':=w1'.ext hs2.extBut n1 D.l1z
  have w2'':=w2'.ext hs2.extBut n2 D.l2z
  have st:Step ρ s.heap ρ h2:=N6 (qs:=[z,i1,i2,TO]) (fun q hq=>by
   simp only [List.mem_cons,List.not_mem_nil,or_false] at hq
   rcases hq with rfl | rfl | rfl | rfl
   · exact .inr oz
   · exact .inr o1
   · exact .inr o2
   · exact .inl oTO) keep
  have ow:∀ b,Av ρ b->b≠z/\b≠i1/\b≠i2:=fun b o=>⟨ne ok.no.1 o,ne ok.no.2.1 o,ne ok.no.2.2 o⟩
  have R2:Rel H ρ { s with heap:=h2,toks:=s.toks }:=by
   refine R.turn ht H3 (fun b ob eb o nb _=>keep b ob (by simp only [List.mem_cons,List.not_mem_nil,or_false,not_or];exact ⟨(ow b o).1,(ow b o).2.1,(ow b o).2.2,nb⟩) eb) st (fun b o eb=>?_) (.hid hTO2)
   have nb:¬Av ρ b:=R.base_not eb
   refine keep b o ?_ (R.base b o eb)
   simp only [List.mem_cons,List.not_mem_nil,or_false,not_or]
   refine ⟨fun w=>?_,fun w=>?_,fun w=>?_,fun w=>nb (w▸oTO)⟩
   · rw [w,hb z (by simp)] at eb;exact nomatch eb
   · rw [w,hb i1 (by simp)] at eb;exact nomatch eb
   · rw [w,hb i2 (by simp)] at eb;exact nomatch eb
  have lv:E3 s.heap h2:=fun b o eb=>by
   by_cases q:b∈[z,i1,i2,TO]
   · simp only [List.mem_cons,List.not_mem_nil,or_false] at q
     rcases q with rfl | rfl | rfl | rfl
     · exact ⟨_,hz2⟩
     · refine ex1 w1''.obj fun o zz=>Ac zz fun e _=>?_;exact ⟨o,e⟩
     · refine ex1 w2''.obj fun o zz=>Ac zz fun e _=>?_;exact ⟨o,e⟩
     · exact ⟨_,hTO2⟩
   · exact ⟨o,keep b o q eb⟩
  refine kk _ h2 s.toks R2 st (fun b o nb no eb=>keep b o (by simp only [List.mem_cons,List.not_mem_nil,or_false,not_or] at nb ⊢;exact ⟨nb.1,nb.2.1,nb.2.2,fun w=>no (w▸oTO)⟩) eb) lv ?_ ?_
  · exact .tup hT2 (R.fresh_not (Am _)) (show 2<=sizeLine by skip;decide) (.cons (ra.step st) (.cons (rb.step st) .nil))
  · exact ⟨⟨TO,ht,hz2⟩,st.keepT _ _ ok.ti.1 (.inl ⟨rfl,_,_,rfl⟩) ok.ti.2,up1 h2 st w1'',up2 h2 st w2'',ok.no⟩
 fin:=by
  intro i ρ H s Q E R ok ck hx hb kk
  simp only [Bool.and_eq_true] at ck
  refine Ae fun G kG=>?_
  obtain ⟨⟨ck1,ck2⟩,ck3⟩:=ck
  refine ex1 ok.zip fun TO zz=>Ac zz fun ht hz=>?_
  refine ex3 (ok.it1.raw R ck1) fun b1 a1 vs zz=>Ep zz fun w1 r1 ne1 nt1 up1=>?_
  refine kG ?_
  have hn:=J7 hlen hx
  refine Yz hh n1 (ne1 z (Ag3 hz)) hz ok.ti.1 w1 (by rw [List.getElem?_eq_none_iff] at hn;have:=r1.length;simp;exact Aph hlen this hn) fun h' keep=>?_
  have keep':∀ b o,b ∉ [z,i1]->s.heap.get? b=some o->h'.get? b=some o:=fun b o nb eb=>by
   simp only [List.mem_cons,List.not_mem_nil,or_false,not_or] at nb
   exact keep b o nb.1 nb.2 eb
  have st:Step ρ s.heap ρ h':=N6 (qs:=[z,i1]) (fun q hq=>by
   simp only [List.mem_cons,List.not_mem_nil,or_false] at hq
   rcases hq with rfl | rfl
   · exact .inr (Ag3 hz)
   · exact .inr ok.it1.obj) keep'
  refine kk h' s.toks (R.same st (fun b o ow eb=>keep b o (fun w=>ok.no.1 (w▸ow)) (fun w=>ok.no.2.1 (w▸ow)) eb) fun b o eb=>keep b o (fun w=>?_) (fun w=>?_) (R.base b o eb)) st fun b o nb _ eb=>keep' b o (fun w=>nb ?_) eb
  · rw [w,hb z (by simp)] at eb;exact nomatch eb
  · rw [w,hb i1 (by simp)] at eb;exact nomatch eb
  · simp only [List.mem_cons,List.not_mem_nil,or_false] at w ⊢
    rcases w with w | w
    · exact .inl w
    · exact .inr (.inl w)
end
section
variable{A:Around}{Φ:Funs}{l:List Env}{d:Nat}{env:Env}{sc:Scope}{ns:List (Option Str)}{Γ:Env'}{H:Hp}{ρ ρ':Rho}{s:Shared}
set_option tactic.hygienic true in
theorem N7{v:Val}{H:Hp}{xs:List Val}{l:Nat}(h:Hd v H=some (xs,l)):v=.loc l/\H[l]?=some (.list xs):=by
 unfold Hd at h
 split at h
 · split at h
   · rename_i hl;cases h;exact ⟨rfl,hl⟩
   · exact Ad h
 · exact Ad h
theorem Ac4:(("zip":Str),Value.type "zip")∈Gq:=by
 unfold Gq
 repeat (first | exact List.Mem.head _ | apply List.Mem.tail)
noncomputable abbrev loopK(A:Around)(env:Env)(target:Expr)(stmts:List Stmt)(zv:Value):(Flow->Shared->Prop)->(Value->Shared->Prop)->Shared->Prop:=fun Q E s =>
 wpAny (model cx.prog cx.w) A (pyIter zv) (fun it s₂=>codeAny (model cx.prog cx.w) A (.forLoop target it stmts [] env) (fun r s'=>match r with | .ok f=>Q f s' | .error e=>cameBackBy (model cx.prog cx.w) A env E e s') s₂) E s
theorem Li{target:Expr}{stmts:List Stmt}{zv:Value}:R6 (loopK A env target stmts zv):=by
 intro Q E Q' E' s h k1 k2
 exact zE h (fun it s₂ h2=>codeAny_mono h2 fun r s' hr=>by
  cases r with
  | ok f=>exact k1 _ _ hr
  | error e=>exact Hs hr k2) k2
theorem Y1{v w:Val}{H:Hp}{xs ys:List Val}{l1 l2:Option Nat}(h:Nl v w H=some ((xs,l1),(ys,l2))):∃ k1 k2,v=.loc k1/\w=.loc k2/\l1=some k1/\l2=some k2/\H[k1]?=some (.list xs)/\H[k2]?=some (.list ys):=by
 unfold Nl at h
 cases h1:Hd v H with
 | none=>rw [h1] at h;exact Ad h
 | some p =>
  cases h2:Hd w H with
  | none=>rw [h1,h2] at h;exact Ad h
  | some q =>
   rw [h1,h2] at h
   cases h
   obtain ⟨hr0,g1⟩:=N7 (l:=p.2) h1;refine Eq.symm hr0▸?_
   obtain ⟨hr1,g2⟩:=N7 (l:=q.2) h2;refine Eq.symm hr1▸?_
   exact ⟨_,_,rfl,rfl,rfl,rfl,g1,g2⟩
theorem Y2{v w:Val}{va vb:Value}{xs ys:List Val}{l1 l2:Option Nat}(R:Rel H ρ s)(r1:VR ρ s.heap v va)(r2:VR ρ s.heap w vb)(hz:Nl v w H=some ((xs,l1),(ys,l2))){Q:Value->Shared->Prop}{E:Value->Shared->Prop}
 (k:∀ h3,IsZip h3 (s.heap.objs.size+4) (s.heap.objs.size+2) (s.heap.objs.size+3) .none->IsPair h3 (s.heap.objs.size+2) (.ref s.heap.objs.size) (.ref (s.heap.objs.size+1))->IsPair h3 (s.heap.objs.size+3) .none .none->(∀ c o,s.heap.get? c=some o->h3.get? c=some o) ->
  (∀ ρ',Full ρ s.heap ρ' h3->ZIt xs s.heap.objs.size 0 ρ' h3 l1/\ZIt ys (s.heap.objs.size+1) 0 ρ' h3 l2)->Q (.ref (s.heap.objs.size+4)) { s with heap:=h3 }):wpAny (model cx.prog cx.w) A (call (.type "zip") [va,vb]) Q E s:=by
 refine Ae fun G kG=>?_
 refine ex2 (Y1 hz) fun k1 k2 zz=>Lx zz fun zr2 zr3 zr4 zr5 g1 g2=>?_;subst zr2;subst zr3;subst zr4;subst zr5
 refine ex1 r1.loc_inv fun p1 zz=>Ac zz fun e1 zr2=>?_;subst zr2
 refine ex1 r2.loc_inv fun p2 zz=>Ac zz fun e2 zr2=>?_;subst zr2
 refine ex2 (R.listAt g1 e1) fun vs nv zz=>Cl zz fun pp1 h1 u1 z1=>?_
 refine ex2 (R.listAt g2 e2) fun ws nw zz=>Cl zz fun pp2 h2 u2 z2=>?_
 refine kG ?_
 refine call_zip_2 (xs:=vs.toArray) (ys:=ws.toArray) ⟨_,h1,rfl,nv,rfl⟩ ⟨_,h2,rfl,nw,rfl⟩ fun h3 hz3 hTI3 hTO3 hi1 hi2 hsz kp=>?_
 exact k h3 hz3 hTI3 hTO3 kp fun ρ' F=>⟨.list (F.grow.get e1) hi1,.list (F.grow.get e2) hi2⟩
theorem Pm(B:Base){i j:Nat}{a b:ME}{body:MSs}{y z f:Str}{p q:Expr}{stmts:List Stmt}{py pz pt fp cp pos:Pos}{kk:Nat}(hh:A.handled=none)(hfr:A.frames=some (env :: l))(ha:C4 ns)(hy:Fn sc ns i y=true)(hz:Fn sc ns j z=true)
 (hg:Br sc f=true) (hf:f=("zip":Str)) (np:Ih p=true) (nq:Ih q=true)
 (hp:∀ Γ:Env',Γ.length=ns.length->EOk A ((Amb.env env sc ns Γ).and (Amb.frames (env :: l))) Φ env Γ a p) (hq:∀ Γ:Env',Γ.length=ns.length->EOk A ((Amb.env env sc ns Γ).and (Amb.frames (env :: l))) Φ env Γ b q)
 (hb:Gx A (env :: l) env sc ns (execs stmts env) (execSs cx.T Φ body)) :
 Gx A (env :: l) env sc ns (exec (.For (.Tuple [.Name y py,.Name z pz] kk pt) (.Call (.Name f fp) [p,q] [] cp) stmts [] pos) env) (Da cx.T Φ (.eachZip i j a b body)):=by
 refine Ae fun G kG=>?_
 refine ex2 B.ns fun mg mb zz=>Lx zz fun ng nb' _ _ _ tab=>?_
 have q12:mg ("zip":Str)=none/\mb ("zip":Str)=some (.type "zip"):=tab _ Ac4
 obtain ⟨q1,q2⟩:=q12
 refine kG ?_
 rw [<- hf] at q1 q2
 intro Γ H ρ s R e0 fr
 refine Bw.to ?_
 refine Bs.bindK (K:=fun va Q E s=>wpAny (model cx.prog cx.w) A (eval q env) (fun vb s'=>wpAny (model cx.prog cx.w) A (call (.type "zip") [va,vb]) (fun zv s''=>loopK A env (.Tuple [.Name y py,.Name z pz] kk pt) stmts zv Q E s'') E s') E s) e0 ((hp Γ e0.len).val H ρ s R ⟨e0,fr⟩) ?_ ?_ ?_
 · intro v va H1 ρ1 s1 _ F1 R1 e1 vr1
   have fr1:Aw (env :: l) ρ1 s1.heap:=fr.full F1
   refine Bs.bindK (K':=fun Q E s=>wpAny (model cx.prog cx.w) A (eval q env) (fun vb s'=>wpAny (model cx.prog cx.w) A (call (.type "zip") [va,vb]) (fun zv s''=>loopK A env (.Tuple [.Name y py,.Name z pz] kk pt) stmts zv Q E s'') E s') E s)
    (K:=fun vb Q E s=>wpAny (model cx.prog cx.w) A (call (.type "zip") [va,vb]) (fun zv s''=>loopK A env (.Tuple [.Name y py,.Name z pz] kk pt) stmts zv Q E s'') E s) e1 ((hq Γ e1.len).val H1 ρ1 s1 R1 ⟨e1,fr1⟩) ?_ ?_ fun Q E h=>h
   · intro w vb H2 ρ2 s2 _ F2 R2 e2 vr2
     have fr2:Aw (env :: l) ρ2 s2.heap:=fr1.full F2
     have vr1':VR ρ2 s2.heap v va:=vr1.step F2.step
     refine Bw.look fun pr h1=>?_
     obtain ⟨⟨xs,l1⟩,ys,l2⟩:=pr
     dsimp only
     by_cases hlen:xs.length=ys.length
     · rw [if_pos hlen]
       refine Bw.ofPost fun Q E nb p=>?_
       refine Y2 R2 vr1' vr2 h1 fun h3 hz3 hTI3 hTO3 kp zit=>?_
       refine wpAny_pyIter_zip hz3 ?_
       have fresh:∀ k,s2.heap.get? (s2.heap.objs.size+k)=none:=fun k=>Ge (zM _ _)
       obtain ⟨F3,R3⟩:=R2.alloc (tk:=s2.toks) (o:=.hid) (p:=(s2.heap.objs.size+3,s2.heap.objs.size+3)) kp ⟨fresh 3,fresh 3⟩ (.hid hTO3)
       have nof:∀ k,k≠3->¬Av (ρ2++[(s2.heap.objs.size+3,s2.heap.objs.size+3)]) (s2.heap.objs.size+k):=fun k hk ⟨p,hp,h⟩=>by
        rcases List.mem_append.mp hp with hp | hp
        · exact R2.fresh_not (fresh k) ⟨p,hp,h⟩
        · rw [List.mem_singleton.mp hp] at h
          have:s2.heap.objs.size+k=s2.heap.objs.size+3:=by rcases h with h | h <;> exact h
          exact hk (Nat.add_left_cancel this)
       obtain ⟨z1,z2⟩:=zit _ F3
       refine Q9 (Ac3 hh xs ys hlen l1 l2 H2.length (s2.heap.objs.size+4) (s2.heap.objs.size+2) s2.heap.objs.size (s2.heap.objs.size+1) (Nat.ne_of_lt (by exact Api)) (Nat.ne_of_lt (by exact Apj)) (Nat.ne_of_lt (Nat.lt_succ_self _)) [.Name y py,.Name z pz] kk pt) hfr (Vn hh ha hy hz) hb e2 fr2 (fun b o e=>⟨o,R2.base b o e⟩) ?_ F3.toS R3 (e2.full F3) ?_ nb p
       · intro q hq
         have hq':q=s2.heap.objs.size+4\/q=s2.heap.objs.size\/q=s2.heap.objs.size+1:=by
          have hq2:q∈[s2.heap.objs.size+4,s2.heap.objs.size,s2.heap.objs.size+1]:=hq
          simpa using hq2
         rcases hq' with rfl | rfl | rfl
         · exact fresh 4
         · exact fresh 0
         · exact fresh 1
       · exact ⟨⟨_,by rw [R2.len,List.getElem?_append_right (zI _)];simp,hz3⟩,⟨hTI3,nof 2 (by decide)⟩,z1,z2,nof 4 (by decide),nof 0 (by decide),nof 1 (by decide)⟩
     · rw [if_neg hlen];trivial
   · intro vb Q E Q' E' s h k1 k2
     exact zE h (fun zv s'' h'=>Li _ _ _ _ _ h' k1 k2) k2
 · intro va Q E Q' E' s h k1 k2
   exact zE h (fun vb s' h'=>zE h' (fun zv s'' h''=>Li _ _ _ _ _ h'' k1 k2) k2) k2
 · intro Q E h
   refine wpAny_For ?_ (fun xv=>rfl)
   refine wpAny_Call_ofName (wp_glob R e0.st hg ng nb' (v:=.type "zip") (.inr ⟨q1,q2⟩) ?_)
   have pl:B6 env [p,q]:=⟨Bq np,Bq nq,trivial⟩
   rw [An cp pl]
   refine PyProof.Rows.callWith_type (Dg _) (Calls.evalArgs_plain (Calls.spliced_cons (zE h (fun v s' h'=>?_) fun _ _ q=>q)))
   exact Calls.spliced_cons (zE h' (fun w s'' h''=>Calls.spliced_nil h'') fun _ _ q=>q)
structure EnOk(xs:List Val)(l1:Nat)(e it:Addr)(i:Nat)(ρ:Rho)(h:Heap):Prop where
 en:∃ old,IsEnum h e it i old
 it1:∃ p,ρ[l1]?=some p/\h.IsListIter it p.1 i
 no:¬Av ρ e/\¬Av ρ it
end
section
variable{A:Around}{Φ:Funs}{l:List Env}{d:Nat}{env:Env}{sc csc:Scope}{ns:List (Option Str)}{Γ:Env'}{H:Hp}{ρ ρ':Rho}{s:Shared}
theorem J8{m:ME}{x:Expr}{t:Option Expr}{ln:Nat}(h:ck N sc ns m x=true)(hm:∀ a b c,m≠.comp a b c):swapsWith x t ln env=pure false:=by
 have z:=Um h
 have hc:Aao m=false:=by cases m <;> first | rfl | exact absurd rfl (hm _ _ _)
 rw [hc] at z
 cases x <;> first | rfl | exact Al z
theorem Sm{x:Expr}{y:Str}{py:Pos}{ln:Nat}:swapsWith x (some (.Name y py)) ln env=pure true\/swapsWith x (some (.Name y py)) ln env=pure false:=by
 have:∃ b,swapsWith x (some (.Name y py)) ln env=pure b:=by cases x <;> exact ⟨_,rfl⟩
 obtain ⟨b,e⟩:=this
 cases b
 · exact .inr e
 · exact .inl e
theorem Dp{i:Nat}{m:ME}{y:Str}{x:Expr}{py pos:Pos}(ha:C4 ns)(ho:Fn sc ns i y=true)(hs:swapsWith x (some (.Name y py)) pos.line env=pure false)
 (hx:∀ Γ:Env',Γ.length=ns.length->EOk A ((Amb.env env sc ns Γ).and (Amb.frames l)) Φ env Γ m x) :
 Gx A l env sc ns (exec (.Assign [.Name y py] x pos) env) (Da cx.T Φ (.assign i m)):=by
 intro Γ H ρ s R e0 fr
 refine Bw.to (Bs.bindK (K:=fun v Q E s=>wpAny (model cx.prog cx.w) A (storeName env y v) (fun _=>Q .next) E s) e0 ((hx Γ e0.len).val H ρ s R ⟨e0,fr⟩) (fun b v H1 ρ1 s1 _ F1 R1 e1 vr=>Vj ha R1 e1 ho vr) (fun _=>Pl) fun Q E h=>wpAny_Assign_Name h hs)
theorem J9(hh:A.handled=none){i:Nat}{elt it:ME}{cond:MEo}{e x:Expr}{t y:Str}{ifs:List Expr}{tp py cp pos:Pos}(ha:C4 ns)(ho:Fn sc ns i y=true)(hs:swapsWith (.ListComp e [⟨.Name t tp,x,ifs,0⟩] csc cp) (some (.Name y py)) pos.line env=pure true)(hi:Ec x=true)(hc:Jz sc csc t=true)
 (pt:CParts A Φ l csc (Dz csc ns++[some t]) cond elt ifs e) (hx:∀ Γ:Env',Γ.length=ns.length->EOk A ((Amb.env env sc ns Γ).and (Amb.frames l)) Φ env Γ it x) :
 Gx A l env sc ns (exec (.Assign [.Name y py] (.ListComp e [⟨.Name t tp,x,ifs,0⟩] csc cp) pos) env) (Da cx.T Φ (.assign i (.comp elt it cond))):=by
 refine Ap (Bu hc) fun c1 c2 c3=>?_
 intro Γ H ρ s R e0 fr
 rw [Tn,N3]
 have assoc:∀ (m:M Val) (f:Val->M Val) (g:Val->Hp->ResS) (H:Hp),Gm (m.bnd f) Γ g H=Gm m Γ (fun v=>Gm (f v) Γ g) H:=by
  intro m f g H
  unfold Gm M.bnd
  cases m H <;> rfl
 rw [assoc]
 refine Bw.to (Bs.bindK (K:=fun xv Q E s=>wpAny (model cx.prog cx.w) A (pyIter xv) (fun it s₂=>wpAny (model cx.prog cx.w) A (newList []) (fun acc s₃=>wpAny (model cx.prog cx.w) A (newFunctionEnv csc env.globals (Fp env csc.names []) [] env.qual none .none (some env)) (fun cenv s₄ =>
  codeAny (model cx.prog cx.w) A (.compStart (.ListComp e [⟨.Name t tp,x,ifs,0⟩] csc cp) 0 it acc { cenv with scope:=relabel csc env }) (compPost (model cx.prog cx.w) A E (some (assign (.Name y py) env)) (fun _ s'=>Q .next s') acc cenv.locals) s₄) E s₃) E s₂) E s) e0 ((hx Γ e0.len).val H ρ s R ⟨e0,fr⟩) ?_ ?_ ?_)
 · intro v xv H1 ρ1 s1 _ F1 R1 e1 vr
   rcases Gu (T:=cx.T) (Φ:=Φ) (cond:=cond) (elt:=elt) (Γ:=Γ) (v:=v) (H:=H1) with w | ⟨xs,src,ys,H₂,w1,w2,w3,w4⟩
   · unfold Gm;rw [w];trivial
   · unfold Gm;rw [w4]
     refine Lg hh hc ha e1.len pt R1 e1 ((Amb.frames l).st _ _ _ _ fr F1) vr w1 w2 w3 fun D C ρ' s' F' R' v' m' n' hC=>?_
     obtain ⟨m,hm⟩:=m'
     have e':=e1.full F'
     have lvB:E3 cx.h₀ s1.heap:=fun b o e=>⟨o,R1.base b o e⟩
     refine wpAny_assign_Name (D7 e'.len ha R' e' ho v' fun h2 tk2 F2 R2 e2 hq=>?_)
     refine Ae fun G kG=>?_
     refine ex2 hq fun q oq zz=>Ap zz fun hqd hqs gq=>?_
     have live:∀ {b:Addr},(∃ o,s1.heap.get? b=some o)->b≠C:=fun ⟨o,eo⟩ w=>by rw [w,hC] at eo;exact Ad eo
     have locL:env.locals≠C:=live (by refine ex1 e1.st.loc fun m zz=>ex3 zz fun o es ep zz=>Ac zz fun e _=>?_;exact ⟨o,e⟩)
     have celL:∀ z c,env.cells.lookup z=some c->c≠C:=fun z c hc=>live (by obtain ⟨⟨v,o,e,_⟩,_⟩:=e1.st.cells z c hc;exact ⟨o,e⟩)
     have qC:C≠q:=by
      rcases hqd with ⟨_,rfl⟩ | ⟨_,w⟩
      · exact locL.symm
      · exact (celL y q w).symm
     have hm2:h2.Ns C m:=Bh hm fun o eo=>⟨o,by rw [hqs.2 C qC];exact eo,rfl⟩
     refine ex1 (Vg hm2) fun oC zz=>Ap zz fun gC nf nx=>?_
     refine kG ?_
     refine ⟨m,hm2,fun h3 hs3=>?_⟩
     have st:Step ρ' h2 ρ' h3:=Step.ext gC hs3.extBut nf nx
     have FF:FullS env ρ1 s1.heap ρ' h2:=F'.toS.trans F2
     refine ⟨rfl,ρ',?_,R2.ext (tk:=tk2) gC hs3.extBut nf nx n' (lvB.none hC),e2.but hs3.extBut locL.symm (fun z w=>celL z C w rfl) st⟩
     refine ⟨FF.grow,fun b o eb n n1 n2=>?_,fun b o eb=>?_⟩
     · refine ex1 (FF.keep b o eb n n1 n2) fun o' zz=>Ac zz fun e' u=>?_
       exact ⟨o',hs3.extBut b o' (live ⟨o,eb⟩) e',u⟩
     · obtain ⟨o',e'⟩:=FF.live b o eb
       exact ⟨o',hs3.extBut b o' (live ⟨o,eb⟩) e'⟩
 · intro xv Q E Q' E' s h k1 k2
   exact zE h (fun it s₂ h2=>zE h2 (fun acc s₃ h3=>zE h3 (fun cenv s₄ h4=>codeAny_mono h4 fun r s' hr=>Hr hr (fun _ s=>k1 _ s) k2) k2) k2) k2
 · intro Q E h
   rw [exec_Assign_Name_used _ _ _ _ hs]
   refine zB (wpAny_standAt (zB ?_))
   show wpAny _ A (do let _<-comprehension (.ListComp e [⟨.Name t tp,x,ifs,0⟩] csc cp) csc env _ (newList []) false (eval x env) (some (assign (.Name y py) env))) _ _ s
   refine zB (zE (wpAny_comprehension_free (use:=some (assign (.Name y py) env)) (Q:=fun _ s'=>Q .next s') (g:=⟨.Name t tp,x,ifs,0⟩) (gs:=[]) rfl (fun xv=>Fw hi env xv)
    (Hq fun p' hp' hf=>e0.st.hasCell p'.1 (by rcases (c3 p' hp').2 hf with w | w;exact .inl w;exact .inr w)) c1 (fun p' hp' hl=>by rw [(c3 p' hp').1,hl]) h) (fun _ s' hq=>zH (zH hq)) fun _ _ e=>e)
theorem Sn(G:Ground A Φ l d){i:Nat}{m:ME}{y:Str}{x:Expr}{py pos:Pos}(ha:C4 ns)(ho:Fn sc ns i y=true)(hm:ck N sc ns m x=true) :
 Gx A l env sc ns (exec (.Assign [.Name y py] x pos) env) (Da cx.T Φ (.assign i m)):=by
 rcases Sm (env:=env) (x:=x) (y:=y) (py:=py) (ln:=pos.line) with hs | hs
 · by_cases hc:∃ a b c,m=.comp a b c
   · refine ex3 hc fun elt it cond zr3=>?_;subst zr3
     refine ex7 (Qq hm) fun el t px i' ifs csc cp zz=>Lx zz fun zr7 h1 h2 h3 h4 h5=>?_;subst zr7
     exact J9 G.room.hh ha ho hs h2 h3 ⟨fun cenv Γ' hΓ'=>econd G cond ifs cenv csc _ Γ' h5 (Fx ha (Bu h3).2.1) hΓ',fun cenv Γ' hΓ'=>(eok G elt el cenv csc _ Γ' h4 (Fx ha (Bu h3).2.1) hΓ').val⟩
      fun Γ hΓ=>eok G it i' env sc ns Γ h1 ha hΓ
   · have:=J8 (env:=env) (t:=some (.Name y py)) (ln:=pos.line) hm fun a b c w=>hc ⟨a,b,c,w⟩
     exact Dp ha ho this fun Γ hΓ=>eok G m x env sc ns Γ hm ha hΓ
 · exact Dp ha ho hs fun Γ hΓ=>eok G m x env sc ns Γ hm ha hΓ
end
section
variable{A:Around}{Φ:Funs}{l:List Env}{d:Nat}{env:Env}{sc:Scope}{ns:List (Option Str)}{Γ:Env'}{H:Hp}{ρ:Rho}{s:Shared}
theorem So{v m:Val}{n:Nat}{u:Unit}{H':Hp}(h:Bo v n m H=.ok u H'):∃ i c fs,v=.loc i/\H[i]?=some (.inst c fs)/\H'=H.set i (.inst c (Tk fs n m)):=by
 unfold Bo at h
 split at h
 · split at h
   · cases h;exact ⟨_,_,_,rfl,by assumption,rfl⟩
   · exact D4 h
 · exact D4 h
theorem Mn{v m:Val}{n c:Nat}{H':Hp}(h:Bo v n m H=.exc c H'):False:=by
 unfold Bo at h
 split at h
 · split at h <;> cases h
 · cases h
theorem Sp{x p:Expr}{y:Str}{q:Pos}{ln:Nat}:swapsWith x (some (.Attribute p y q)) ln env=pure false:=by cases x <;> rfl
theorem Pn(G:Ground A Φ l d){o e:ME}{n:Nat}{p x:Expr}{y:Str}{q pos:Pos}(ha:C4 ns)(hx:ck N sc ns e x=true)(hp:ck N sc ns o p=true)(hn:Dy N.attrs y n=true) :
 Gx A l env sc ns (exec (.Assign [.Attribute p y q] x pos) env) (Da cx.T Φ (.setattr o n e)):=by
 intro Γ H ρ s R e0 fr
 refine Bw.to (Bs.bindK (K:=fun v Q E s=>wpAny (model cx.prog cx.w) A (eval p env) (fun ov s₂=>wpAny (model cx.prog cx.w) A (setAttr ov y v) (fun _=>Q .next) E s₂) E s) e0 ((eok G e x env sc ns Γ hx ha e0.len).val H ρ s R ⟨e0,fr⟩) ?_ ?_ fun Q E h=>plainObj_wpAny_Assign_Attribute h Sp)
 · intro b v H1 ρ1 s1 _ F1 R1 e1 vr
   refine Bs.bindK (K:=fun ov Q E s=>wpAny (model cx.prog cx.w) A (setAttr ov y v) (fun _=>Q .next) E s) e1 ((eok G o p env sc ns Γ hp ha e1.len).val H1 ρ1 s1 R1 ⟨e1,fr.full F1⟩) ?_ ?_ (fun Q E h=>h)
   · intro b2 ov H2 ρ2 s2 _ F2 R2 e2 vo
     have vo':VR ρ2 s2.heap b2 ov:=vo
     unfold Gm
     cases hr:Bo b2 n b H2 with
     | bad=>trivial
     | exc c H3=>exact (Mn hr).elim
     | ok u H3 =>
      refine ex3 (So hr) fun i c fs zz=>Ap zz fun zr3 hi zr5=>?_;subst zr3;subst zr5
      refine ex1 vo'.loc_inv fun p1 zz=>Ac zz fun hp1 hr0=>?_;refine Eq.symm hr0▸?_
      exact Sj G.base.cls R2 hi hp1 (G.base.cls.attr y n (Cq hn)) (VR.step F2.step vr) fun s' F R'=>⟨rfl,ρ2,F.toS,R',e2.full F⟩
   · exact fun _ Q E Q' E' s h k1 k2=>zE h (fun _ _=>k1 _ _) k2
 · exact fun _ Q E Q' E' s h k1 k2=>zE h (fun _ _ h'=>zE h' (fun _ _=>k1 _ _) k2) k2
theorem Vo(G:Ground A Φ (env :: l) d){c:ME}{b:MSs}{x:Expr}{ts:List Stmt}{pos:Pos}(ha:C4 ns)(hc:ck N sc ns c x=true)(hb:Gx A (env :: l) env sc ns (execs ts env) (execSs cx.T Φ b)) :
 Gx A (env :: l) env sc ns (exec (.While x ts [] pos) env) (Da cx.T Φ (.loop c b)):=by
 intro Γ₀ H₀ ρ₁ s₁ R₀ e₁ fr
 rw [Abt]
 refine Bw.to (Bw.ofPost fun Q E nb p=>wpAny_While ?_)
 generalize hres:I2 (fun Γ=>(Aj cx.T Φ c Γ).bnd C3) (execSs cx.T Φ b) Rv Γ₀ H₀=res at nb p
 refine codeAny_whileLoop (fun n s=>∃ Γ H ρ,FullS env ρ₁ s₁.heap ρ s.heap/\Rel H ρ s/\EnvOk env sc ns Γ ρ s.heap/\I2 (fun Γ=>(Aj cx.T Φ c Γ).bnd C3) (execSs cx.T Φ b) n Γ H=res) ?_ Rv ⟨Γ₀,H₀,ρ₁,FullS.refl _ _ _,R₀,e₁,hres⟩
 intro n s zz
 refine ex3 zz fun Γ H ρ zz=>Cl zz fun F R e0 hr=>?_
 cases n with
 | zero=>exact absurd hr.symm nb
 | succ n =>
  rw [Jv] at hr
  have fr0:Aw (env :: l) ρ s.heap:=fr.stmt F e₁.st e0.st
  have C:=(eok G c x env sc ns Γ hc ha e0.len).tru H ρ s R ⟨e0,fr0⟩
  cases hcd:((Aj cx.T Φ c Γ).bnd C3) H with
  | bad=>rw [hcd] at hr;exact absurd hr.symm nb
  | exc k H1=>rw [hcd] at hr;exact absurd hr.symm nb
  | ok t H1 =>
   rw [hcd] at hr C
   refine zE C (fun t' s2 ⟨ρ2,F2,R2,ht⟩=>?_) fun _ _ q=>q.elim
   have ht':t'=t:=ht
   subst ht'
   have e2:=e0.full F2
   have F12:=F.trans F2.toS
   cases t' with
   | false =>
    dsimp only at hr
    subst hr
    exact wpAny_execs_nil (p s2 ρ2 F12 R2 e2)
   | true =>
    dsimp only at hr
    rw [if_pos rfl]
    have B:=hb Γ H1 ρ2 s2 R2 e2 (fr0.full F2)
    cases hbd:execSs cx.T Φ b Γ H1 with
    | bad=>rw [hbd] at hr;exact absurd hr.symm nb
    | exc k Γ3 H3=>rw [hbd] at hr;exact absurd hr.symm nb
    | next Γ3 H3 =>
     rw [hbd] at hr B
     refine zE B (fun f s3 q=>?_) fun _ _ q=>q.elim
     refine Ac q fun zr0 zz=>ex1 zz fun ρ3 zz=>Ap zz fun F3 R3 e3=>?_;subst zr0
     exact ⟨n,Nat.lt_succ_self n,Γ3,H3,ρ3,F12.trans F3,R3,e3,hr⟩
    | ret v H3 =>
     rw [hbd] at hr B
     subst hr
     refine zE B (fun f s3 q=>?_) fun _ _ q=>q.elim
     refine Ae fun G kG=>?_
     refine ex2 q fun v' ρ3 zz=>Cl zz fun zr2 F3 R3 vr3=>?_;subst zr2
     refine kG ?_
     exact p s3 ρ3 v' (F12.trans F3) R3 vr3
end
section
variable{A:Around}{Φ:Funs}{l:List Env}{d:Nat}{env:Env}{sc:Scope}{ns:List (Option Str)}{Γ:Env'}{H:Hp}{ρ:Rho}{s:Shared}
set_option maxRecDepth 100000 in
theorem Sq{a:Addr}{vs:List Value}{n:Nat}{k:Int}{t:Tok}{v:Value}{Q:Unit->Shared->Prop}{E:Value->Shared->Prop}(g:s.heap.get? a=some (Bp vs n))(h0:0<=k)(hk:k < vs.length)(hf:k < 2 ^ 63)
 (hQ:Q () { s with heap:=s.heap.update a (Obj.mapSeq (·.setIfInBounds k.toNat v)) }):wpAny (model cx.prog cx.w) A (setItem (.ref a) (.int k t) v) Q E s:=by
 have hl:s.heap.IsList a vs.toArray:=⟨_,g,rfl,n,rfl⟩
 unfold setItem
 try with_reducible refine wpAny_holding ?_
 first | refine zB (zH ?_) | skip
 refine zB (wpAny_sequenceKey hl.typeIs (by decide) ?_)
 refine zB (wpAny_callSpecial?_slot (name:=Str.ofString "__setitem__") hl.typeIs slot_list_setitem (wpAny_call_entry slot_list_setitem hl.typeIs entry_list_setitem ?_ (args_list_setitem _ _ _)))
 show wpAny _ _ (Builtin.List.listSubscript? (.int k t)>>=_) _ _ s
 refine zB (wpAny_listSubscript_int (fitsIndex_of h0 hf) ?_)
 clear hf
 obtain ⟨j,rfl⟩:=Int.eq_ofNat_of_zero_le h0
 have hj:j < vs.toArray.size:=by simp only [List.size_toArray];exact Aep hk
 have hx':vs.toArray[j]?=some vs.toArray[j]:=Array.getElem?_eq_getElem hj
 refine zB (zB (wpAny_seqItemAt g rfl (zH ?_)))
 rw [hx']
 refine zB (wpAny_setSeqItemAt g rfl ?_)
 first
  | exact zB (zH (zH ⟨.none,rfl,zH hQ⟩))
  | exact zH ⟨.none,rfl,zH hQ⟩
theorem VRs.setArr{xs:List Val}{vs:List Value}{m:Val}{v:Value}{h:Heap}(r:VRs ρ h xs vs)(k:Nat)(a:VR ρ h m v):VRs ρ h (xs.set k m) (vs.toArray.setIfInBounds k v).toList:=by
 have:(vs.toArray.setIfInBounds k v).toList=vs.set k v:=by simp
 rw [this];exact r.set k a
set_option tactic.hygienic true in
theorem Sr{o i m:Val}{u:Unit}{H':Hp}(h:A4 o i m H=.ok u H'):∃ l,o=.loc l/\((∃ xs k,H[l]?=some (.list xs)/\i=.int k/\0<=k/\k < xs.length/\H'=H.set l (.list (xs.set k.toNat m))) \/
 ∃ es k,H[l]?=some (.dict es)/\Es i=some k/\es.length < lid/\H'=H.set l (.dict (Id es k m))):=by
 unfold A4 at h
 split at h
 · rename_i l
   split at h
   · rename_i xs hl
     split at h
     · rename_i k
       by_cases q:0<=k/\k < xs.length
       · rw [if_pos q] at h;cases h;exact ⟨l,rfl,.inl ⟨xs,k,hl,rfl,q.1,q.2,rfl⟩⟩
       · rw [if_neg q] at h;exact D4 h
     · exact D4 h
   · rename_i es hl
     split at h
     · rename_i k hk
       by_cases q:es.length < lid
       · rw [if_pos q] at h;cases h;exact ⟨l,rfl,.inr ⟨es,k,hl,hk,q,rfl⟩⟩
       · rw [if_neg q] at h;exact D4 h
     · exact D4 h
   · exact D4 h
 · exact D4 h
theorem Mo{o i m:Val}{c:Nat}{H':Hp}(h:A4 o i m H=.exc c H'):False:=by
 unfold A4 at h
 split at h
 · split at h
   · split at h
     · split at h <;> cases h
     · cases h
   · split at h
     · split at h <;> cases h
     · cases h
   · cases h
 · cases h
theorem Ss(hu:A.units+100 < cLine)(R:Rel H ρ s){l:Nat}{p:Addr × Addr}{es:List (Key × Val)}{i m:Val}{k:Key}{iv v:Value}{Q:Unit->Shared->Prop}{E:Value->Shared->Prop}(hp:ρ[l]?=some p)(hl:H[l]?=some (.dict es))(hk:Es i=some k)(q:es.length < lid)
 (xi:VR ρ s.heap i iv) (xm:VR ρ s.heap m v) (hQ:∀ h' tk,Full ρ s.heap ρ h'->Rel (H.set l (.dict (Id es k m))) ρ { s with heap:=h',toks:=tk }->Q () { s with heap:=h',toks:=tk }):wpAny (model cx.prog cx.w) A (setItem (.ref p.1) iv v) Q E s:=by
 refine Ae fun G kG=>?_
 refine ex1 (R.dictAt hl hp) fun xs zz=>Cl zz fun hpp D rr z=>?_
 refine ex1 (Qj xi hk) fun bb zz=>Ap zz fun zr1 hb no=>?_;subst zr1
 refine kG ?_
 refine wpAny_setItem_heap (knd:=cellKind) (tupleKind_room_in1 (by exact o9 hu)) hb D (fun h' hm hs=>?_) (by rw [rr.length];exact z)
 refine Ae fun G kG=>?_
 refine ex3 D fun _ _ _ zz=>Lx zz fun _ _ _ _ ks nd=>?_
 rw [Ed] at q
 obtain ⟨F,R'⟩:=Qm (tk:=s.toks+(cellKind).draws [k.1,k.2]) R hp hpp hm hs (O6 ks hb) (rr.put nd xm (show VR ρ s.heap (.tup [.int k.1,.int k.2]) (.ref bb) from Aaf hk▸xi)) (zC (O7 es k m) q)
 refine kG ?_
 exact hQ h' _ F R'
theorem Su{x p i:Expr}{q:Pos}{ln:Nat}:swapsWith x (some (.Subscript p i q)) ln env=pure false:=by cases x <;> rfl
theorem Po(G:Ground A Φ l d){o i e:ME}{p j x:Expr}{q pos:Pos}(ha:C4 ns)(hx:ck N sc ns e x=true)(hp:ck N sc ns o p=true)(hi:ck N sc ns i j=true) :
 Gx A l env sc ns (exec (.Assign [.Subscript p j q] x pos) env) (Da cx.T Φ (.setitem o i e)):=by
 intro Γ H ρ s R e0 fr
 refine Bw.to (Bs.bindK (K:=fun v Q E s=>wpAny (model cx.prog cx.w) A (eval p env) (fun ov s₂=>wpAny (model cx.prog cx.w) A (eval j env) (fun iv s₃=>wpAny (model cx.prog cx.w) A (setItem ov iv v) (fun _=>Q .next) E s₃) E s₂) E s) e0 ((eok G e x env sc ns Γ hx ha e0.len).val H ρ s R ⟨e0,fr⟩) ?_ ?_ fun Q E h=>wpAny_Assign_Subscript h Su)
 · intro b v H1 ρ1 s1 _ F1 R1 e1 vr
   refine Bs.bindK (K:=fun ov Q E s=>wpAny (model cx.prog cx.w) A (eval j env) (fun iv s₃=>wpAny (model cx.prog cx.w) A (setItem ov iv v) (fun _=>Q .next) E s₃) E s) e1 ((eok G o p env sc ns Γ hp ha e1.len).val H1 ρ1 s1 R1 ⟨e1,fr.full F1⟩) ?_ ?_ (fun Q E h=>h)
   · intro b2 ov H2 ρ2 s2 _ F2 R2 e2 vo
     refine Bs.bindK (K:=fun iv Q E s=>wpAny (model cx.prog cx.w) A (setItem ov iv v) (fun _=>Q .next) E s) e2 ((eok G i j env sc ns Γ hi ha e2.len).val H2 ρ2 s2 R2 ⟨e2,(fr.full F1).full F2⟩) ?_ ?_ (fun Q E h=>h)
     · intro b3 iv H3 ρ3 s3 _ F3 R3 e3 vi
       have vo':VR ρ3 s3.heap b2 ov:=VR.step F3.step vo
       have vi':VR ρ3 s3.heap b3 iv:=vi
       have vr':VR ρ3 s3.heap b v:=VR.step F3.step (VR.step F2.step vr)
       unfold Gm
       cases hr:A4 b2 b3 b H3 with
       | bad=>trivial
       | exc c H4=>exact (Mo hr).elim
       | ok u H4 =>
        refine ex1 (Sr hr) fun a zz=>Ac zz fun zr1 hs=>?_;subst zr1
        refine ex1 vo'.loc_inv fun p1 zz=>Ac zz fun hp1 hr1=>?_;refine Eq.symm hr1▸?_
        rcases hs with ⟨xs,k,hl,rfl,k0,k1,rfl⟩ | ⟨es,k,hl,hk,q,rfl⟩
        · refine Ae fun G kG=>?_
          obtain ⟨t,rfl⟩:=vi'.int_inv
          refine ex2 (R3.listAt hl hp1) fun vs n zz=>Cl zz fun hpp g rr z=>?_
          refine kG ?_
          have z':=z
          rw [sizeLine_eq] at z'
          refine Sq g k0 (by rw [<- rr.length];exact k1) (b63 z' k1) ?_
          refine ex1 (Hk (b:=.none) (v:=.none) (ys:=xs.set k.toNat b) R3 hp1 hpp g (fun w=>w.setIfInBounds k.toNat v) (rr.setArr k.toNat vr') (by rw [List.length_set];exact z) fun _ _=>.none) fun ρ' zz=>Ap zz fun F R' _=>?_
          exact ⟨rfl,ρ',F.toS,R',e3.full F⟩
        · exact Ss G.u R3 hp1 hl hk q vi' vr' fun h' tk F R'=>⟨rfl,ρ3,F.toS,R',e3.full F⟩
     · exact fun _ Q E Q' E' s h k1 k2=>zE h (fun _ _=>k1 _ _) k2
   · exact fun _ Q E Q' E' s h k1 k2=>zE h (fun _ _ h'=>zE h' (fun _ _=>k1 _ _) k2) k2
 · exact fun _ Q E Q' E' s h k1 k2=>zE h (fun _ _ h'=>zE h' (fun _ _ h2=>zE h2 (fun _ _=>k1 _ _) k2) k2) k2
end
section
variable{A:Around}{Φ:Funs}{l:List Env}{d:Nat}{env:Env}{sc:Scope}{ns:List (Option Str)}{Γ:Env'}{H:Hp}{ρ ρ':Rho}{s:Shared}
theorem Vp(G:Ground A Φ l d)(ha:C4 ns){c:Nat}{x msg:Str}{np cpos pos:Pos}{k:Nat}{mp:Pos}(hg:Br sc x=true)(hn:Dy N.clss x c=true)(hck:ckEs N sc ns (.cons (.str msg) .nil) [.Constant (.str msg) k mp]=true) :
 Gx A l env sc ns (exec (.Raise (some (.Call (.Name x np) [.Constant (.str msg) k mp] [] cpos)) none pos) env) (Da cx.T Φ (.raise c msg)):=by
 intro Γ H ρ s R e0 fr
 rw [Xm]
 by_cases hi:¬cx.T.isExc c=true
 · rw [if_neg hi];trivial
 have hi:cx.T.isExc c=true:=Classical.not_not.mp hi
 rw [if_pos hi]
 refine ex1 (G.base.exc c hi) fun C zz=>Ac zz fun hC ok=>?_
 refine ex2 G.base.ns fun mg mb zz=>Lx zz fun ng nb _ _ q _=>?_
 refine ex1 (q x c (Cq hn)) fun Cv zz=>Ac zz fun hC' hx=>?_
 rw [hC] at hC';cases hC'
 refine Xh ok.is fun nm qn Nn bs bm hdct sn sub ab col dd k0 k1 k2 zz=>ex3 zz fun k3 k5 mN zz=>Ep zz fun hCo hNs hin tl _=>?_
 have y:=eoks G (.cons (.str msg) .nil) [.Constant (.str msg) k mp] env sc ns Γ hck ha e0.len H ρ s R ⟨e0,fr⟩
 have ev:evalEs cx.T Φ (.cons (.str msg) .nil) Γ H=.ok [.str msg] H:=rfl
 rw [ev] at y
 have pl:=An (env:=env) cpos (B8 hck)
 refine wpAny_Raise_call_subT (C:=C) (nm:=nm) (q:=qn) (N:=Nn) (bs:=bs) (hdct:=hdct) (sn:=sn) (sub:=sub) (ab:=ab) (col:=col) (dd:=dd) (k0:=k0) (k1:=k1) (k2:=k2) (k3:=k3) (k5:=k5) F.excBase_ValueError (mN:=mN) (bm:=bm) (tl.hasType (by decide)) G.room.hh (by rw [pl];exact Dg _) hin ?_
 refine wp_glob R e0.st hg ng nb hx ⟨rfl,?_⟩
 rw [pl]
 refine Calls.evalArgs_plain (zE y (fun vs s' ⟨ρ',F,R',vrs⟩=>?_) fun _ _ q=>q.elim)
 refine ⟨rfl,by have:=vrs.length;skip;rw [<- this];show 1<=16777216;decide,R'.base _ _ hCo,hNs.keeps R'.base,tl.keeps R'.base,fun h' e m=>?_⟩
 have F':Full ρ s.heap ρ' h':=F.trans (Full.more m.keeps)
 refine Ae fun G kG=>?_
 refine ex1 m.there fun t zz=>Ap zz fun ht _ _=>?_
 refine kG ?_
 exact ⟨ρ',F'.toS,R'.more (tk:=s'.toks) m.keeps,e0.full F',e,C,_,rfl,hC,F.live.none m.new,ht,rfl,R'.fresh_not m.new,.inl rfl⟩
end
structure GroundC(A:Around)(Φ:Funs)(l:List Env)(K:Nat->Bool):Prop where
 base:Base
 u:A.units+100 < cLine
 funs:∀ (f:Nat) (a:Addr) (args:List Val) (vals:List Value),K f=true->cx.fns[f]?=some a->Sim A ((Amb.vrs args vals).and (Amb.frames l)) (call (.ref a) vals) (Φ f args) (Amb.vr)
 defs:∀ (f:Nat) (a:Addr),cx.fns[f]?=some a->∃ g,cx.T.funs[f]?=some g
section
variable{A:Around}{Φ:Funs}{l:List Env}{d:Nat}{K:Nat->Bool}{env:Env}{sc:Scope}{ns:List (Option Str)}{Γ:Env'}{H:Hp}{ρ ρ':Rho}{s:Shared}
mutual
theorem Xg(G:GroundC A Φ l K):∀ (m:ME) (e:Expr) (env:Env) (sc:Scope) (ns:List (Option Str)) (Γ:Env'),Jq K m=true->ck N sc ns m e=true->C4 ns->Γ.length=ns.length->EOk A ((Amb.env env sc ns Γ).and (Amb.frames l)) Φ env Γ m e
 | .none,e,env,sc,ns,Γ,c,h,_,_=>by
  refine ex2 (Qn h) fun k pos hr0=>?_;refine Eq.symm hr0▸?_
  refine EOk.of (fun H ρ s R p=>?_) rfl
  exact As R fun Q E k=>wpAny_Constant_none (k _ s.toks .none)
 | .bool b,e,env,sc,ns,Γ,c,h,_,_=>by
  refine ex2 (Qo h) fun k pos zr2=>?_;subst zr2
  refine EOk.of (fun H ρ s R p=>?_) rfl
  exact As R fun Q E k=>wpAny_Constant_bool (k _ s.toks (.bool b))
 | .int i,e,env,sc,ns,Γ,c,h,_,_=>by
  refine ex2 (Uf h) fun k pos zr2=>?_;subst zr2
  refine EOk.of (fun H ρ s R p=>?_) rfl
  exact As R fun Q E k=>wpAny_Constant_int (k _ _ (.int _ _))
 | .str v,e,env,sc,ns,Γ,c,h,_,_=>by
  refine ex2 (Ug h) fun k pos zz=>Ac zz fun zr2 z=>?_;subst zr2
  refine EOk.of (fun H ρ s R p=>?_) rfl
  exact As R fun Q E k=>wpAny_Constant_str (k _ _ (.str _ _ (by rw [sizeLine_eq];exact o22 z)))
 | .var i,e,env,sc,ns,Γ,c,h,_,_=>by
  refine ex2 (Uh h) fun x pos zz=>Ac zz fun zr2 h1=>?_;subst zr2
  exact EOk.of (T9 h1 Φ).and1 rfl
 | .bin op a b,e,env,sc,ns,Γ,c,h,ha,hΓ=>by
  refine ex4 (Ui h) fun x o y pos zz=>Cl zz fun hr5 h1 h2 h3=>?_;refine Eq.symm hr5▸?_
  exact U7 h1 (Xg G a x env sc ns Γ (an1 c) h2 ha hΓ) (Xg G b y env sc ns Γ (an2 c) h3 ha hΓ)
 | .cmp op a b,e,env,sc,ns,Γ,c,h,ha,hΓ=>by
  refine ex3 (Uj h) fun x y pos zz=>Cl zz fun hr6 h1 h2 h3=>?_;refine Eq.symm hr6▸?_
  exact U8 G.u h3 (Xg G a x env sc ns Γ (an1 c) h1 ha hΓ) (Xg G b y env sc ns Γ (an2 c) h2 ha hΓ)
 | .call f es,e,env,sc,ns,Γ,c,h,ha,hΓ=>by
  refine ex4 (Qp h) fun x np xs pos zz=>Ep zz fun hr7 h1 h2 h3 h4=>?_;refine Eq.symm hr7▸?_
  refine EOk.of ?_ rfl
  refine ex2 G.base.ns fun mg mb zz=>Cl zz fun ng nb q _=>?_
  refine ex1 (q x f (Cq h2)) fun a zz=>Ac zz fun ha' _=>?_
  exact Nx G.base (fun a args vals h=>G.funs f a args vals (an1 c) h) h1 h2 (G.defs f a ha') h3 (eoksC G es xs env sc ns Γ (an2 c) h3 ha hΓ)
 | .bm a m es,e,env,sc,ns,Γ,c,h,ha,hΓ=>by
  refine ex5 (Aan h) fun o y apos xs pos zz=>Ov zz fun zr5 h1 zr7 h3 h4 h5 h6=>?_;subst zr5;subst zr7
  refine EOk.of ?_ rfl
  exact Aam h5 (B8 h4) (by rw [<- h3];cases m <;> decide) (fun e=>Gf (e▸h4)) h6 (Xg G a o env sc ns Γ (an2 (an1 c)) h1 ha hΓ).val (eoksC G es xs env sc ns Γ (an2 c) h4 ha hΓ)
   (fun b v ms vs hl=>Aau G.u m b v ms vs (Aat h3 hl)) (fun _ _ _ e=>Cg h4 e)
 | .isinst a t,e,env,sc,ns,Γ,c,h,ha,hΓ=>by
  refine ex6 (Kz h) fun f np x y yp pos zz=>Lx zz fun hr8 h1 h2 h3 h4 h5=>?_;refine Eq.symm hr8▸?_
  have z:=Xg G a x env sc ns Γ c h4 ha hΓ
  cases t with
  | cls c=>exact Q6 G.base h1 h2 h3 h5 (A9 h4) z
  | int=>exact Em G.base (fun c=>by intro q;cases q) h1 h2 h3 (of_decide_eq_true h5) (A9 h4) z
  | bool=>exact Em G.base (fun c=>by intro q;cases q) h1 h2 h3 (of_decide_eq_true h5) (A9 h4) z
  | str=>exact Em G.base (fun c=>by intro q;cases q) h1 h2 h3 (of_decide_eq_true h5) (A9 h4) z
  | tuple=>exact Em G.base (fun c=>by intro q;cases q) h1 h2 h3 (of_decide_eq_true h5) (A9 h4) z
  | list=>exact Em G.base (fun c=>by intro q;cases q) h1 h2 h3 (of_decide_eq_true h5) (A9 h4) z
 | .glob _,_,_,_,_,_,c,_,_,_=>by exact Al c
 | .neg _,_,_,_,_,_,c,_,_,_=>by exact Al c
 | .not _,_,_,_,_,_,c,_,_,_=>by exact Al c
 | .and _ _,_,_,_,_,_,c,_,_,_=>by exact Al c
 | .or _ _,_,_,_,_,_,c,_,_,_=>by exact Al c
 | .cmp2 _ _ _ _ _,_,_,_,_,_,c,_,_,_=>by exact Al c
 | .sub _ _,_,_,_,_,_,c,_,_,_=>by exact Al c
 | .tup _,_,_,_,_,_,c,_,_,_=>by exact Al c
 | .list _,_,_,_,_,_,c,_,_,_=>by exact Al c
 | .dict,_,_,_,_,_,c,_,_,_=>by exact Al c
 | .attr _ _,_,_,_,_,_,c,_,_,_=>by exact Al c
 | .new _ _,_,_,_,_,_,c,_,_,_=>by exact Al c
 | .umeth _ _ _,_,_,_,_,_,c,_,_,_=>by exact Al c
 | .bf _ _,_,_,_,_,_,c,_,_,_=>by exact Al c
 | .comp _ _ _,_,_,_,_,_,c,_,_,_=>by exact Al c
theorem eoksC(G:GroundC A Φ l K):∀ (ms:MEs) (xs:List Expr) (env:Env) (sc:Scope) (ns:List (Option Str)) (Γ:Env'),calmEs K ms=true->ckEs N sc ns ms xs=true->C4 ns->Γ.length=ns.length ->
 Sim A ((Amb.env env sc ns Γ).and (Amb.frames l)) (spliced (xs.map fun e=>(false,eval e env))) (evalEs cx.T Φ ms Γ) (Amb.vrs)
 | .nil,[],env,sc,ns,Γ,c,h,ha,hΓ=>Un
 | .nil,_ :: _,env,sc,ns,Γ,c,h,ha,hΓ=>by cases (show false=true from h)
 | .cons _ _,[],env,sc,ns,Γ,c,h,ha,hΓ=>by cases (show false=true from h)
 | .cons m ms,x :: xs,env,sc,ns,Γ,c,h,ha,hΓ=>Qr (Xg G m x env sc ns Γ (an1 c) (an1 h) ha hΓ).val (eoksC G ms xs env sc ns Γ (an2 c) (an2 h) ha hΓ)
end
theorem Sv{m:MEo}{x:Option Expr}{pos:Pos}(hm:ckO N sc ns m x=true)(he:∀ e x',m=.some e->x=some x'->ck N sc ns e x'=true->∀ Γ:Env',Γ.length=ns.length->EOk A ((Amb.env env sc ns Γ).and (Amb.frames l)) Φ env Γ e x'):Gx A l env sc ns (exec (.Return x pos) env) (Da cx.T Φ (.ret m)):=by
 intro Γ H ρ s R e0 fr
 match m,x,hm,he with
 | .none,none,_,_=>exact wpAny_Return_none ⟨_,ρ,rfl,FullS.refl _ _ _,R,.none,e0.st⟩
 | .some e,some x,hm,he =>
  exact Bw.to (Bs.bindK (K:=fun v Q _ s=>Q (.ret v) s) e0 ((he e x rfl rfl hm Γ e0.len).val H ρ s R ⟨e0,fr⟩) (fun b v H1 ρ1 s1 _ F1 R1 e1 vr=>⟨v,ρ1,rfl,FullS.refl _ _ _,R1,vr,e1.st⟩) (fun _ Q E Q' E' s h k1 _=>k1 _ _ h) fun Q E h=>wpAny_Return_some h)
 | .none,some _,h,_=>cases (show false=true from h)
 | .some _,none,h,_=>cases (show false=true from h)
theorem Sw{c:ME}{t f:MSs}{x:Expr}{ts fs:List Stmt}{pos:Pos}(hc:∀ Γ:Env',Γ.length=ns.length->EOk A ((Amb.env env sc ns Γ).and (Amb.frames l)) Φ env Γ c x)(ht:Gx A l env sc ns (execs ts env) (execSs cx.T Φ t))(hf:Gx A l env sc ns (execs fs env) (execSs cx.T Φ f)) :
 Gx A l env sc ns (exec (.If x ts fs pos) env) (Da cx.T Φ (.ite c t f)):=by
 intro Γ H ρ s R e0 fr
 refine Bw.to (Bs.bindK (K:=fun b Q E s=>if b=true then wpAny (model cx.prog cx.w) A (execs ts env) Q E s else wpAny (model cx.prog cx.w) A (execs fs env) Q E s) e0 ((hc Γ e0.len).tru H ρ s R ⟨e0,fr⟩) ?_ ?_ fun Q E h=>wpAny_If h)
 · intro b b' H1 ρ1 s1 _ F1 R1 e1 hb
   have hb':b'=b:=hb
   refine hb'▸?_
   cases b' with
   | true=>exact (Bw.of (ht Γ H1 ρ1 s1 R1 e1 (fr.full F1))).mono fun Q E h=>h
   | false=>exact (Bw.of (hf Γ H1 ρ1 s1 R1 e1 (fr.full F1))).mono fun Q E h=>by simpa using h
 · intro b Q E Q' E' s h k1 k2
   cases b
   · simp only [Bool.false_eq_true,if_false] at h ⊢;exact zE h k1 k2
   · simp only [if_true] at h ⊢;exact zE h k1 k2
mutual
theorem Ats(G:GroundC A Φ l K)(ha:C4 ns):∀ (m:MS) (st:Stmt),Aeu K m=true->ckS N sc ns m st=true->Gx A l env sc ns (exec st env) (Da cx.T Φ m)
 | .assign i e,st,c,h=>by
  obtain ⟨t,h⟩:=Aa h
  rw [t.2]
  refine Dp ha (an1 h) (J8 (an2 h) fun a b d w=>?_) fun Γ hΓ=>Xg G e _ env sc ns Γ c (an2 h) ha hΓ
  rw [w] at c;cases (show false=true from c)
 | .ret e,st,c,h=>by
  obtain ⟨t,h⟩:=Aa h
  rw [t.2]
  exact Sv h fun e' x' he _ hk Γ hΓ=>Xg G e' x' env sc ns Γ (by rw [he] at c;exact c) hk ha hΓ
 | .ite c t f,st,q,h=>by
  obtain ⟨p,h⟩:=Aa h
  rw [p.2]
  exact Sw (fun Γ hΓ=>Xg G c _ env sc ns Γ (an1 (an1 q)) (an1 (an1 h)) ha hΓ) (soksC G ha t p.1.2.1 (an2 (an1 q)) (an2 (an1 h))) (soksC G ha f p.1.2.2.1 (an2 q) (an2 h))
 | .expr _,_,c,_=>by exact Al c
 | .setattr _ _ _,_,c,_=>by exact Al c
 | .setitem _ _ _,_,c,_=>by exact Al c
 | .loop _ _,_,c,_=>by exact Al c
 | .each _ _ _,_,c,_=>by exact Al c
 | .eachZip _ _ _ _ _,_,c,_=>by exact Al c
 | .raise _ _,_,c,_=>by exact Al c
 | .tryx _ _,_,c,_=>by exact Al c
theorem soksC(G:GroundC A Φ l K)(ha:C4 ns):∀ (m:MSs) (sts:List Stmt),calmSs K m=true->ckSs N sc ns m sts=true->Gx A l env sc ns (execs sts env) (execSs cx.T Φ m)
 | .nil,[],_,_=>by
  intro Γ H ρ s R e0 fr
  exact wpAny_execs_nil ⟨rfl,ρ,FullS.refl _ _ _,R,e0⟩
 | .nil,_ :: _,_,h=>by cases (show false=true from h)
 | .cons _ _,[],_,h=>by cases (show false=true from h)
 | .cons m ms,st :: sts,c,h=>by
  intro Γ H ρ s R e0 fr
  exact Q8 e0 fr (Ats G ha m st (an1 c) (an1 h) Γ H ρ s R e0 fr) (soksC G ha ms sts (an2 c) (an2 h))
end
theorem Vq(B:Base)(defs:∀ (f:Nat) (a:Addr),cx.fns[f]?=some a->∃ g,cx.T.funs[f]?=some g){k:Nat}{a:Addr}{args:List Val}{vals:List Value}(hc:Fh cx.T k=true)(hk:cx.fns[k]?=some a)(room:RoomQ A (d+1))(hfr:A.frames=some l) :
 Sim A ((Amb.vrs args vals).and (Amb.frames l)) (call (.ref a) vals) (Af cx.T (d+1) k args) (Amb.vr):=by
 refine Nz B hk room hfr fun f stmts env sc ns hf h1 h2 h3 h4=>?_
 have c:calmSs (fun _=>false) f.body=true:=by unfold Fh at hc;rw [hf] at hc;exact hc
 exact soksC (K:=fun _=>false) ⟨B,by have:=room.units;show A.units+3+100 < _;exact Apk this,fun f a args vals h=>(by exact nomatch h),defs⟩ h2 f.body stmts c h1
end
noncomputable def Pp(Φ:Funs)(d:Nat):Prop :=
 ∀ (k:Nat) (a:Addr) (args:List Val) (vals:List Value) (A:Around) (l:List Env),Fh cx.T k=true->cx.fns[k]?=some a->RoomQ A d->A.frames=some l ->
  Sim A ((Amb.vrs args vals).and (Amb.frames l)) (call (.ref a) vals) (Φ k args) (Amb.vr)
theorem Y3(B:Base)(defs:∀ (f:Nat) (a:Addr),cx.fns[f]?=some a->∃ g,cx.T.funs[f]?=some g):∀ d,Pp (Af cx.T d) d
 | 0=>fun k a args vals A l _ _ _ _ H ρ s R p=>trivial
 | d+1=>fun k a args vals A l hc hk room hfr=>Vq B defs hc hk room hfr
section
variable{M:Model}{A:Around}{E:Value->Shared->Prop}{h:Heap}{g:Array GenState}{d:Drawn}{t:Nat}{os:OsState}
variable{nm q:Str}{C N:Addr}{bs bm:List Value}{hdct:Bool}{sn:List Str}{sub:List Value}{ab:Bool}{col:Option Bool}{dd:Option Addr}{k0 k1 k2 k3 k5:Option Value}{newId:String}
variable{nm' q':Str}{C' N':Addr}{bs' bm':List Value}{hdct':Bool}{sn':List Str}{sub':List Value}{ab':Bool}{col':Option Bool}{dd':Option Addr}{k0' k1' k2' k3' k5':Option Value}{newId':String}
theorem Sx{e:Addr}{oe:Obj}{Q:Bool->Shared->Prop}(hC:h.get? C=some (excClassObj nm q C N bs bm hdct sn sub ab col dd k0 k1 k2 k3 k5 newId))(hD:h.get? C'=some (excClassObj nm' q' C' N' bs' bm' hdct' sn' sub' ab' col' dd' k0' k1' k2' k3' k5' newId'))(he:h.get? e=some oe)(hcls:oe.cls=.ref C)(hbase:bm'.contains (.type "BaseException")=true)
 (hq:Q ((Value.ref C :: bm).contains (.ref C')) ⟨h,g,d,t,os⟩):wpAny M A (excMatches (.ref e) (.ref C')) Q E ⟨h,g,d,t,os⟩:=by
 have hcB:(Value.ref C' :: bm').contains (.type "BaseException")=true:=by rw [List.contains_cons,hbase,Bool.or_true]
 have f:=tc_notTuple
 generalize hb:(Value.ref C :: bm).contains (.ref C')=b at hq
 unfold excMatches
 repeat (first | (with_reducible refine wpAny_loadPart_at he ?_;rw [hcls]) | with_reducible refine wpAny_loadPart_at hD ?_ | (with_reducible refine wpAny_isSubtype_exc hD ?_;rw [hcB]) | (with_reducible refine wpAny_isSubtype_exc hC ?_;rw [hb]) | wp_step)
 cases b <;> (wp_walk;exact hq)
end
section
variable{A:Around}{Φ:Funs}{l:List Env}{d:Nat}{env:Env}{sc:Scope}{ns:List (Option Str)}{Γ:Env'}{H:Hp}{ρ ρ₀:Rho}{s:Shared}{h:Heap}{c:Nat}{e:Value}{Q:Flow->Shared->Prop}{E:Value->Shared->Prop}
theorem Ac5(lb:E3 cx.h₀ h)(fl:Flown ρ h s.heap c e){what:String}(k:∀ h',Off ρ h s.heap h'->Flown ρ h h' c e->E e { s with heap:=h' }):wpAny (model cx.prog cx.w) A (passOn what e env:Sem Flow) Q E s:=by
 refine Ae fun G kG=>?_
 refine ex5 fl.is fun a C vs tb tvs zz=>Xi zz fun zr5 hC ha ga hz no h1 htb gtb hzt not=>?_;subst zr5
 refine kG ?_
 unfold passOn
 refine zB (wpAny_field ga rfl h1 ?_)
 exact zB (Eu lb ⟨a,C,vs,tb,tvs,rfl,hC,ha,ga,hz,no,h1,htb,gtb,hzt,not⟩ fun h' o' fl'=>wpAny_throw (k h' o' fl'))
theorem Ra{e:Value}{b:MSs}{ts:List Stmt}{K:Nat->Bool}{v:Val}{H':Hp}{Γ':Env'}(G:GroundC (A.mark (some e)) Φ (env :: l) K)(ha:C4 ns)(hc:calmSs K b=true)(hk:ckSs N sc ns b ts=true)(hr:execSs cx.T Φ b Γ' H=.ret v H')(R:Rel H ρ s)(e0:EnvOk env sc ns Γ' ρ s.heap)(w:Aw (env :: l) ρ s.heap)(F:FullS env ρ₀ h ρ s.heap)
 (k:∀ v' ρ' s',FullS env ρ₀ h ρ' s'.heap->Rel H' ρ' s'->VR ρ' s'.heap v v'->EnvSt env sc ρ' s'.heap->Q (.ret v') s'):wpAny (model cx.prog cx.w) (A.mark (some e)) (execs ts env) Q (fun x s'=>False) s:=by
 have y:=soksC (env:=env) G ha b ts hc hk Γ' H ρ s R e0 w
 rw [hr] at y
 exact zE y (fun f s' ⟨v',ρ',h1,F1,R1,vr⟩=>by refine Eq.symm h1▸?_;exact k v' ρ' s' (F.trans F1) R1 vr.1 vr.2) fun _ _ q=>q.elim
theorem Step.loc{h h':Heap}(x:EnvSt env sc ρ h)(sb:Heap.SameBut env.locals h h')(e':∃ o,h'.get? env.locals=some o):Step ρ h ρ h':=by
 have k:∀ b o,h.get? b=some o->b≠env.locals->h'.get? b=some o:=fun b o e n=>(sb.2 b n).trans e
 exact ⟨⟨[],by simp⟩,fun b o e f n=>⟨k b o e (x.notLoc e f.notDict),n⟩,fun b o C e f n=>⟨o,k b o e (x.notLoc e f.notDict),f,n⟩⟩
theorem Vr{n:Str}{pos:Pos}{Q:Unit->Shared->Prop}(hl:sc.names.lookup n=some .local)(R:Rel H ρ s)(st:EnvSt env sc ρ s.heap)(F:FullS env ρ₀ h ρ s.heap)
 (k:∀ h' tk,FullS env ρ₀ h ρ h'->Rel H ρ { s with heap:=h',toks:=tk }->Step ρ s.heap ρ h'->EnvSt env sc ρ h'->Q () { s with heap:=h',toks:=tk }):wpAny (model cx.prog cx.w) A (do bindName env n .none;unbindBehindTheSuite env n pos) Q E s:=by
 obtain ⟨m,hm⟩:=st.loc
 refine wpAny_nameGoes (m:=m) (st.kinds n _ hl) hm (by rw [st.fn];rfl) fun h' m' hn' sb=>?_
 refine Ae fun G kG=>?_
 refine ex3 (id hn') fun o' es' ep' zz=>Ap zz fun e' d' _=>?_
 refine kG ?_
 have stp:=Step.loc st sb ⟨o',e'⟩
 have kk:∀ b o,s.heap.get? b=some o->b≠env.locals->h'.get? b=some o:=fun b o e n=>(sb.2 b n).trans e
 refine k h' _ ⟨F.grow,fun b o e n n1 n2=>?_,fun b o e=>?_⟩ (R.same stp (fun b o w e=>kk b o e fun q=>st.locN (q▸w)) fun b o e=>kk b o (R.base b o e) fun q=>by rw [q,st.locB] at e;exact nomatch e) stp ⟨st.fn,st.glob,st.blt,st.kinds,⟨m',hn'⟩,st.locN,st.locB,fun y c hc=>?_,st.hasCell,st.apart⟩
 · refine ex1 (F.keep b o e n n1 n2) fun o1 zz=>Ac zz fun e1 u1=>?_
   exact ⟨o1,kk b o1 e1 n1,u1⟩
 · obtain ⟨o1,e1⟩:=F.live b o e
   by_cases q:b=env.locals
   · exact ⟨o',q▸e'⟩
   · exact ⟨o1,kk b o1 e1 q⟩
 · refine Ae fun G kG=>?_
   refine Ap (st.cells y c hc) fun zn0 n b=>?_;obtain ⟨v,o,eo,dv⟩:=zn0
   refine kG ?_
   exact ⟨⟨v,o,kk c o eo (st.notLoc eo fun es k q=>by rw [dv] at q;cases q),dv⟩,n,b⟩
theorem Y4(T:Tab)(Φ:Funs)(d:Nat)(i:Option Nat)(body:MSs)(hs:MHs)(c:Nat)(Γ:Env')(H:Hp):execH T Φ (.cons d i body hs) c Γ H=(if (T.isExc c && T.isExc d && calmSs (Fh T) body)=false then .bad else if T.sub c d=true then
 match execSs T Φ body (match i with | some i=>Γ.set i (some (.exc c)) | none=>Γ) H with
 | .ret v H'=>.ret v H'
 | _=>.bad
 else execH T Φ hs c Γ H):=rfl
theorem Ac6{r:ResS}(h:(match r with | .ret v H'=>ResS.ret v H' | _=>.bad)≠.bad):∃ v H',r=.ret v H':=by
 cases r with
 | ret v H'=>exact ⟨v,H',rfl⟩
 | bad=>exact absurd rfl h
 | next _ _=>exact absurd rfl h
 | exc _ _ _=>exact absurd rfl h
theorem Sy(G:Ground A Φ (env :: l) d)(FC:Pp Φ d)(ha:C4 ns)(lb:E3 cx.h₀ h){b:MSs}{i:Option Nat}{y:Option Str}{t:Stmt}{ts:List Stmt}{pos:Pos}{v:Val}{H':Hp}(hcalm:calmSs (Fh cx.T) b=true)(hck:ckSs N sc ns b (t :: ts)=true)(hr:execSs cx.T Φ b (match i with | some i=>Γ.set i (some (.exc c)) | none=>Γ) H=.ret v H')(hnm:Aah sc ns i y=true)
 (R:Rel H ρ s) (e0:EnvOk env sc ns Γ ρ s.heap) (w:Aw (env :: l) ρ s.heap) (F:FullS env ρ₀ h ρ s.heap) (fl:Flown ρ h s.heap c e) (p:Yv env sc ns ρ₀ h (.ret v H') Q E) :
 codeAny (model cx.prog cx.w) (A.mark (some e)) (.handlers e [.ExceptHandler none y (t :: ts) pos] env) (fun r s₂=>match r with
  | .ok f=>(match (generalizing:=false) y with
   | none=>Q f s₂
   | some n=>wpAny (model cx.prog cx.w) A (do bindName env n .none;unbindBehindTheSuite env n pos) (fun _ s₃=>Q f s₃) E s₂)
  | .error x=>cameBackBy (model cx.prog cx.w) A env E x s₂) s:=by
 have GC:GroundC (A.mark (some e)) Φ (env :: l) (Fh cx.T):=⟨G.base,G.u,fun f a args vals hc hf=>FC f a args vals (A.mark (some e)) (env :: l) hc hf ⟨by have:=G.room.depth;show A.depth+_+_ < _;exact o2 this,by have:=G.room.units;show A.units+_+_ < _;exact o3 this⟩ G.frames,G.defs⟩
 cases i with
 | none =>
  cases y with
  | some _=>exact Al hnm
  | none =>
   refine codeAny_handlers_suite (Eu lb fl fun h1 o1 fl1=>?_)
   exact zE (Ra (s:={ s with heap:=h1 }) GC ha hcalm hck hr (o1.rel R) (o1.envK e0) (o1.frames w) (o1.fullS F) fun v' ρ' s' F' R' vr st=>p s' ρ' v' F' R' ⟨vr,st⟩) (fun _ _ q=>q) fun _ _ q=>q.elim
 | some i =>
  cases y with
  | none=>exact Al hnm
  | some n =>
   have hown:Fn sc ns i n=true:=an1 hnm
   have hloc:sc.names.lookup n=some .local:=of_decide_eq_true (an2 hnm)
   refine codeAny_handlers_suite_as (Eu lb fl fun h1 o1 fl1=>?_)
   refine D7 (s:={ s with heap:=h1 }) (o1.envK e0).len ha (o1.rel R) (o1.envK e0) hown fl1.vr fun h2 tk2 F2 R2 e2 _=>?_
   refine zE (Ra (s:={ s with heap:=h2,toks:=tk2 }) GC ha hcalm hck hr R2 e2 ((o1.frames w).stmt F2 (o1.envK e0).st e2.st) ((o1.fullS F).trans F2) fun v' ρ' s' F' R' vr st=>?_) (fun _ _ q=>q) fun _ _ q=>q.elim
   exact Vr hloc R' st F' fun h3 tk3 F3 R3 stp st3=>p { s' with heap:=h3,toks:=tk3 } ρ' v' F3 R3 ⟨vr.step stp,st3⟩
theorem N8(G:Ground A Φ (env :: l) d)(FC:Pp Φ d)(ha:C4 ns)(lb:E3 cx.h₀ h):∀ (hs:MHs) (hx:List ExceptHandler),ckHs N sc ns hs hx=true->Rel H ρ s->EnvOk env sc ns Γ ρ s.heap->Aw (env :: l) ρ s.heap->FullS env ρ₀ h ρ s.heap->Flown ρ h s.heap c e->execH cx.T Φ hs c Γ H≠.bad->Yv env sc ns ρ₀ h (execH cx.T Φ hs c Γ H) Q E->wpAny (model cx.prog cx.w) A (handleBy e env hx) Q E s
 | .nil,[],_,R,e0,w,F,fl,_,p=>wpAny_handleBy_nil (Ac5 lb fl fun h' o' fl'=>p e { s with heap:=h' } ρ (o'.fullS F) (o'.rel R) (o'.envK e0) fl'.to)
 | .nil,_ :: _,hk,_,_,_,_,_,_,_=>by cases (show false=true from hk)
 | .cons _ _ _ _,[],hk,_,_,_,_,_,_,_=>by cases (show false=true from hk)
 | .cons dc i b hs,hd :: hx,hk,R,e0,w,F,fl,nb,p=>by
  obtain ⟨t,hc⟩:=Aa (an1 hk)
  rw [t.2]
  rw [Y4] at nb p
  by_cases q1:(cx.T.isExc c && cx.T.isExc dc && calmSs (Fh cx.T) b)=false
  · rw [if_pos q1] at nb;exact absurd rfl nb
  rw [if_neg q1] at nb p
  have q2:(cx.T.isExc c && cx.T.isExc dc && calmSs (Fh cx.T) b)=true:=by cases q:(cx.T.isExc c && cx.T.isExc dc && calmSs (Fh cx.T) b) <;> first | rfl | exact absurd q q1
  refine ex2 G.base.ns fun mg mb zz=>Lx zz fun ng nbl _ _ qc _=>?_
  refine ex1 (qc _ dc (Cq (an2 (an1 (an1 hc))))) fun Dv zz=>Ac zz fun hDv hxv=>?_
  refine ex1 (G.base.exc c (an1 (an1 q2))) fun C zz=>Ac zz fun hC okC=>?_
  refine ex1 (G.base.exc dc (an2 (an1 q2))) fun D zz=>Ac zz fun hD okD=>?_
  rw [hD] at hDv;cases hDv
  refine Xh okC.is fun nm qn Nn bs bm hdct sn sub ab col dd k0 k1 k2 zz=>ex3 zz fun k3 k5 mN zz=>Ep zz fun hCo hNs hin tl hsub=>?_
  refine Xh okD.is fun nm' qn' Nn' bs' bm' hdct' sn' sub' ab' col' dd' k0' k1' k2' zz=>ex3 zz fun k3' k5' mN' zz=>Ep zz fun hDo hNs' hin' tl' hsub'=>?_
  refine ex5 (id fl.is) fun a C' vs tb tvs zz=>Ov zz fun he hC' hna ga hz no h7=>?_
  rw [hC] at hC';cases hC'
  refine wpAny_handleBy_cons (codeAny_handlers_test (wp_glob (A:=A.mark (some e)) R e0.st (an1 (an1 (an1 hc))) ng nbl hxv ?_)) (by rw [he];intro q;cases q)
  have m:=hsub dc (.ref D) hD
  have goal:∀ z,(Value.ref C :: bm).contains (.ref D)=z->(if z=true then codeAny (model cx.prog cx.w) (A.mark (some e)) (.handlers e [.ExceptHandler none t.1.2.2.1 (t.1.2.2.2.1 :: t.1.2.2.2.2.1) t.1.2.2.2.2.2] env) (fun r s₂=>match r with
   | .ok f=>(match t.1.2.2.1 with
    | none=>Q f s₂
    | some n=>wpAny (model cx.prog cx.w) A (do bindName env n .none;unbindBehindTheSuite env n t.1.2.2.2.2.2) (fun _ s₃=>Q f s₃) E s₂)
   | .error x=>cameBackBy (model cx.prog cx.w) A env E x s₂) s else wpAny (model cx.prog cx.w) A (handleBy e env hx) Q E s):=by
   intro z hz'
   rw [hz'] at m
   rw [m] at nb p
   cases z with
   | true =>
    rw [if_pos rfl] at nb p ⊢
    refine ex2 (Ac6 nb) fun v H' hr=>?_
    rw [hr] at p
    exact Sy G FC ha lb (an2 q2) (an2 (an1 hc)) hr (an2 hc) R e0 w F fl p
   | false =>
    rw [if_neg (by decide)] at nb p ⊢
    exact N8 G FC ha lb hs hx (an2 hk) R e0 w F fl nb p
  have g:=goal _ rfl
  rw [he]
  rw [he] at g
  obtain ⟨hp,gg,dr,tk,os⟩:=s
  refine Sx (R.base _ _ hCo) (R.base _ _ hDo) ga rfl (tl'.hasType (by decide)) ?_
  cases z:(Value.ref C :: bm).contains (.ref D) with
  | true=>rw [z,if_pos rfl] at g;exact g
  | false=>rw [z,if_neg (by decide)] at g;exact g
theorem Ac7(G:Ground A Φ (env :: l) d)(FC:Pp Φ d)(ha:C4 ns)(hef:env.frame=some env.locals){b:MSs}{hs:MHs}{ts:List Stmt}{h0:ExceptHandler}{hx:List ExceptHandler}{pos:Pos}(hb:Gx A (env :: l) env sc ns (execs ts env) (execSs cx.T Φ b))(hk:ckHs N sc ns hs (h0 :: hx)=true) :
 Gx A (env :: l) env sc ns (exec (.Try ts (h0 :: hx) [] [] pos) env) (Da cx.T Φ (.tryx b hs)):=by
 intro Γ H ρ s R e0 fr
 have B:=hb Γ H ρ s R e0 fr
 have ex:Da cx.T Φ (.tryx b hs) Γ H=(match execSs cx.T Φ b Γ H with | .exc c Γ' H'=>execH cx.T Φ hs c Γ' H' | r=>r):=rfl
 rw [ex]
 cases hr:execSs cx.T Φ b Γ H with
 | bad=>trivial
 | next Γ' H' =>
  rw [hr] at B
  exact wpAny_Try_except (zE B (fun f s' ⟨h1,q⟩=>by refine Eq.symm h1▸?_;exact wpAny_execs_nil ⟨rfl,q⟩) fun _ _ q=>q.elim)
 | ret v H' =>
  rw [hr] at B
  exact wpAny_Try_except (zE B (fun f s' ⟨v',ρ',h1,q⟩=>by refine Eq.symm h1▸?_;exact ⟨v',ρ',rfl,q⟩) fun _ _ q=>q.elim)
 | exc c Γ' H' =>
  rw [hr] at B
  refine Bw.to (Bw.ofPost (T:=fun Q E s=>wpAny (model cx.prog cx.w) A (exec (.Try ts (h0 :: hx) [] [] pos) env) Q E s) fun Q E nb p=>?_)
  refine wpAny_Try_except (zE B (fun _ _ q=>q.elim) fun e s' ⟨ρ',F,R',e',fl⟩=>?_)
  have w':=fr.stmt F e0.st e'.st
  have lb:E3 cx.h₀ s.heap:=fun b o e=>⟨o,R.base b o e⟩
  refine O9 G.frames hef w' R' lb F.live fl fun h1 o1 fl1=>Eu (s:={ s' with heap:=h1 }) lb fl1 fun h2 o2 fl2=>?_
  have o:=o1.trans o2
  exact N8 (s:={ s' with heap:=h2 }) G FC ha lb hs (h0 :: hx) hk (o.rel R') (o.envK e') (o.frames w') (o.fullS F) fl2 nb p
end
section
variable{A:Around}{Φ:Funs}{l:List Env}{d:Nat}{env:Env}{sc:Scope}{ns:List (Option Str)}{Γ:Env'}{H:Hp}{ρ ρ':Rho}{s:Shared}
theorem Y5(G:Ground A Φ l d){m:ME}{x:Expr}{pos:Pos}(ha:C4 ns)(hm:ck N sc ns m x=true)(hc:Tu m=true):Gx A l env sc ns (exec (.Expr x pos) env) (Da cx.T Φ (.expr m)):=by
 intro Γ H ρ s R e0 fr
 have nc:∀ a b c,m≠.comp a b c:=fun a b c q=>by subst q;exact Al hc
 refine Bw.to (Bs.bindK (K:=fun _ Q _ s=>Q .next s) e0 ((eok G m x env sc ns Γ hm ha e0.len).val H ρ s R ⟨e0,fr⟩) (fun b v H1 ρ1 s1 _ F1 R1 e1 vr=>⟨rfl,ρ1,FullS.refl _ _ _,R1,e1⟩) (fun _ Q E Q' E' s h k1 _=>k1 _ _ h) fun Q E h=>?_)
 refine wpAny_Expr_any h ?_ (J8 hm nc)
 unfold interactive
 rw [e0.st.fn];rfl
theorem Ac8(G:Ground A Φ l d){m:MEo}{x:Option Expr}{pos:Pos}(ha:C4 ns)(hm:ckO N sc ns m x=true):Gx A l env sc ns (exec (.Return x pos) env) (Da cx.T Φ (.ret m)):=by
 intro Γ H ρ s R e0 fr
 match m,x,hm with
 | .none,none,_ =>
  exact wpAny_Return_none ⟨_,ρ,rfl,FullS.refl _ _ _,R,.none,e0.st⟩
 | .some e,some x,hm =>
  exact Bw.to (Bs.bindK (K:=fun v Q _ s=>Q (.ret v) s) e0 ((eok G e x env sc ns Γ hm ha e0.len).val H ρ s R ⟨e0,fr⟩) (fun b v H1 ρ1 s1 _ F1 R1 e1 vr=>⟨v,ρ1,rfl,FullS.refl _ _ _,R1,vr,e1.st⟩) (fun _ Q E Q' E' s h k1 _=>k1 _ _ h) fun Q E h=>wpAny_Return_some h)
 | .none,some _,h=>cases (show false=true from h)
 | .some _,none,h=>cases (show false=true from h)
theorem Ac9(G:Ground A Φ l d){c:ME}{t f:MSs}{x:Expr}{ts fs:List Stmt}{pos:Pos}(ha:C4 ns)(hm:ck N sc ns c x=true)(ht:Gx A l env sc ns (execs ts env) (execSs cx.T Φ t))(hf:Gx A l env sc ns (execs fs env) (execSs cx.T Φ f)) :
 Gx A l env sc ns (exec (.If x ts fs pos) env) (Da cx.T Φ (.ite c t f)):=by
 intro Γ H ρ s R e0 fr
 refine Bw.to (Bs.bindK (K:=fun b Q E s=>if b=true then wpAny (model cx.prog cx.w) A (execs ts env) Q E s else wpAny (model cx.prog cx.w) A (execs fs env) Q E s) e0 ((eok G c x env sc ns Γ hm ha e0.len).tru H ρ s R ⟨e0,fr⟩) ?_ ?_ fun Q E h=>wpAny_If h)
 · intro b b' H1 ρ1 s1 _ F1 R1 e1 hb
   have hb':b'=b:=hb
   refine hb'▸?_
   cases b' with
   | true=>exact (Bw.of (ht Γ H1 ρ1 s1 R1 e1 (fr.full F1))).mono fun Q E h=>h
   | false=>exact (Bw.of (hf Γ H1 ρ1 s1 R1 e1 (fr.full F1))).mono fun Q E h=>by simpa using h
 · intro b Q E Q' E' s h k1 k2
   cases b
   · simp only [Bool.false_eq_true,if_false] at h ⊢;exact zE h k1 k2
   · simp only [if_true] at h ⊢;exact zE h k1 k2
set_option maxHeartbeats 4000000 in
mutual
theorem sok(G:Ground A Φ (env :: l) d)(FC:Pp Φ d)(ha:C4 ns)(hef:env.frame=some env.locals):∀ (m:MS) (st:Stmt),ckS N sc ns m st=true->Gx A (env :: l) env sc ns (exec st env) (Da cx.T Φ m)
 | .expr e,st,h=>by
  obtain ⟨t,h⟩:=Aa h
  rw [t.2]
  exact Y5 G ha (an1 h) (an2 h)
 | .assign i e,st,h=>by
  obtain ⟨t,h⟩:=Aa h
  rw [t.2]
  exact Sn G ha (an1 h) (an2 h)
 | .setattr o n e,st,h=>by
  obtain ⟨t,h⟩:=Aa h
  rw [t.2]
  exact Pn G ha (an1 (an1 h)) (an2 (an1 h)) (an2 h)
 | .setitem o i e,st,h=>by
  obtain ⟨t,h⟩:=Aa h
  rw [t.2]
  exact Po G ha (an1 (an1 h)) (an2 (an1 h)) (an2 h)
 | .ret e,st,h=>by
  obtain ⟨t,h⟩:=Aa h
  rw [t.2]
  exact Ac8 G ha h
 | .ite c t f,st,h=>by
  obtain ⟨p,h⟩:=Aa h
  rw [p.2]
  exact Ac9 G ha (an1 (an1 h)) (soks G FC ha hef t p.1.2.1 (an2 (an1 h))) (soks G FC ha hef f p.1.2.2.1 (an2 h))
 | .loop c b,st,h=>by
  obtain ⟨t,h⟩:=Aa h
  rw [t.2]
  exact Vo G ha (an1 h) (soks G FC ha hef b t.1.2.1 (an2 h))
 | .each i it b,st,h=>by
  obtain ⟨t,h⟩:=Aa h
  rw [t.2]
  exact Yw G.room.hh G.frames ha (an1 (an1 (an1 h))) (an2 (an1 h)) (fun Γ hΓ=>eok G it t.1.2.2.1 env sc ns Γ (an2 (an1 (an1 h))) ha hΓ) (soks G FC ha hef b t.1.2.2.2.1 (an2 h))
 | .eachZip i j a b body,st,h=>by
  obtain ⟨t,h⟩:=Aa h
  rw [t.2]
  obtain ⟨u,h4⟩:=Aa (an2 h)
  rw [u.2]
  exact Pm G.base G.room.hh G.frames ha (an1 (an1 (an1 h))) (an2 (an1 (an1 h))) (an1 (an1 (an1 h4))) (of_decide_eq_true (an2 (an1 (an1 h4)))) (A9 (an2 (an1 h4))) (A9 (an2 h4)) (fun Γ hΓ=>eok G a u.1.2.2.1 env sc ns Γ (an2 (an1 h4)) ha hΓ) (fun Γ hΓ=>eok G b u.1.2.2.2.1 env sc ns Γ (an2 h4) ha hΓ) (soks G FC ha hef body t.1.2.2.1 (an2 (an1 h)))
 | .raise c msg,st,h=>by
  obtain ⟨t,h⟩:=Aa h
  rw [t.2]
  have e:=of_decide_eq_true (an2 (an1 h))
  have hk:=an2 h
  rw [e] at hk ⊢
  exact Vp G ha (an1 (an1 (an1 h))) (an2 (an1 (an1 h))) hk
 | .tryx b hs,st,h=>by
  obtain ⟨t,h⟩:=Aa h
  rw [t.2]
  exact Ac7 G FC ha hef (soks G FC ha hef b t.1.1 (an1 h)) (an2 h)
theorem soks(G:Ground A Φ (env :: l) d)(FC:Pp Φ d)(ha:C4 ns)(hef:env.frame=some env.locals):∀ (m:MSs) (sts:List Stmt),ckSs N sc ns m sts=true->Gx A (env :: l) env sc ns (execs sts env) (execSs cx.T Φ m)
 | .nil,[],_=>by
  intro Γ H ρ s R e0 fr
  exact wpAny_execs_nil ⟨rfl,ρ,FullS.refl _ _ _,R,e0⟩
 | .nil,_ :: _,h=>by cases (show false=true from h)
 | .cons _ _,[],h=>by cases (show false=true from h)
 | .cons m ms,st :: sts,h=>by
  have h:=And.intro (an1 h) (an2 h)
  intro Γ H ρ s R e0 fr
  exact Q8 e0 fr (sok G FC ha hef m st h.1 Γ H ρ s R e0 fr) (soks G FC ha hef ms sts h.2)
end
theorem Ada{d:Nat}(B:Base)(defs:∀ (f:Nat) (a:Addr),cx.fns[f]?=some a->∃ g,cx.T.funs[f]?=some g){Φ:Funs}(hΦ:Hl Φ d)(FC:Pp Φ d):Aap Φ d :=
 fun body stmts env sc ns A l hck ha room hfr hef=>soks (Φ:=Φ) ⟨B,room,hfr,hΦ,defs⟩ FC ha hef body stmts hck
theorem Vs(B:Base)(defs:∀ (f:Nat) (a:Addr),cx.fns[f]?=some a->∃ g,cx.T.funs[f]?=some g):∀ d,Hl (Af cx.T d) d
 | 0=>fun k a args vals A l _ _ _ H ρ s R p=>trivial
 | d+1=>Hl.step B (Ada B defs (Vs B defs d) (Y3 B defs d))
end
end Mine.Internal
namespace Mine.Internal
open PySem PySem.W.X
theorem De{a b:Value}(h:Fs a b=true):a=b:=of_decide_eq_true h
theorem Y6{w:Value}{a:Int}(h:Afc w=some a):∃ t,w=.int a t:=by
 cases w with
 | int b t=>cases h;exact ⟨t,rfl⟩
 | _=>exact Ad h
theorem Y7{w:Value}{a:Str}(h:Ab4 w=some a):∃ t,w=.str a t:=by
 cases w with
 | str b t=>cases h;exact ⟨t,rfl⟩
 | _=>exact Ad h
theorem Y8{ρ:Rho}{h:Heap}{v:Val}{w:Value}(x:Afd v w=true):VR ρ h v w:=by
 cases v with
 | int a =>
  obtain ⟨t,hr0⟩:=Y6 (of_decide_eq_true x);refine Eq.symm hr0▸?_
  exact .int _ _
 | str a =>
  have x:(decide (Ab4 w=some a) && decide (a.length<=1000))=true:=x
  obtain ⟨t,hr1⟩:=Y7 (of_decide_eq_true (an1 x));refine Eq.symm hr1▸?_
  exact .str _ _ (zC (of_decide_eq_true (an2 x)) (by skip;decide))
 | _=>exact Al x
theorem Bl{α:Type}{o:Option α}{f:α->Bool}(h:Bi o f=true):∃ a,o=some a/\f a=true:=by
 cases o with
 | none=>exact Al h
 | some a=>exact ⟨a,rfl,h⟩
theorem Vt{v:Value}(h:Qf v=true):∃ a b,v=.str a b:=by
 obtain ⟨x,_⟩:=Option.isSome_iff_exists.mp h
 exact ⟨_,_,x.2⟩
theorem Fz{h:Heap}{t:Addr->Option Obj}(Z:Has h t){a:Nat}{o:Obj}(e:t a=some o):h.get? a=some o:=Z a o e
set_option tactic.hygienic true in
theorem Sz{h:Heap}{t:Addr->Option Obj}(Z:Has h t){c:Value}{q:Str}(x:Aai t c q=true):h.CodeRec c q:=by
 obtain ⟨a,x⟩:=Aa x
 refine ex1 (Bl x) fun o zz=>Ac zz fun e x=>?_
 obtain ⟨vs,x⟩:=Aa x
 refine ex1 (Bl x) fun v zz=>Ac zz fun hv x=>?_
 obtain ⟨y,x⟩:=Aa x
 exact of_decide_eq_true x▸⟨_,o,vs.1,y.1.2,a.2,Fz Z e,vs.2,hv.trans (congrArg some y.2)⟩
theorem Adb{t:Addr->Option Obj}(Z:Has cx.h₀ t){a:Nat}{f:MFun}{ns:List Str}(x:Ah3 N t a f ns=true):FnOk a f:=by
 refine ex1 (Bl x) fun o zz=>Ac zz fun e x=>?_
 obtain ⟨p,x⟩:=Aa x
 obtain ⟨b,x⟩:=Aa x
 have x2:=an2 x
 have x3:=an2 x2
 have x4:=an2 x3
 have x5:=an2 x4
 have x6:=an2 x5
 have x7:=an2 x6
 exact ⟨o,p.1,b.1,ns,Fz Z e,De (an2 x7),p.2,Sz Z (an1 x7),b.2,List.isEmpty_iff.mp (an1 x2),Nat.eq_of_beq_eq_true (an1 x3),Nat.eq_of_beq_eq_true (an1 x4),De (an1 x5),De (an1 x6),an1 x⟩
theorem N9{t:Addr->Option Obj}:∀ {fns:List Addr} {fs:List MFun} {nss:List (List Str)},Ab5 N t fns fs nss=true->fns.length=fs.length/\∀ (k:Nat) (a:Addr) (f:MFun),fns[k]?=some a->fs[k]?=some f->∃ ns,Ah3 N t a f ns=true
 | [],[],[],_=>⟨rfl,fun k a f h _=>by simp at h⟩
 | a :: as,f :: fs,ns :: nss,h=>by
  have h:=And.intro (an1 h) (an2 h)
  obtain ⟨l,r⟩:=N9 h.2
  refine ⟨by simp [l],fun k b g h1 h2=>?_⟩
  cases k with
  | zero=>simp at h1 h2;subst h1 h2;exact ⟨ns,h.1⟩
  | succ k=>exact r k b g (by simpa using h1) (by simpa using h2)
 | [],[],_ :: _,h=>by cases (show false=true from h)
 | [],_ :: _,_,h=>by cases (show false=true from h)
 | _ :: _,[],_,h=>by cases (show false=true from h)
 | _ :: _,_ :: _,[],h=>by cases (show false=true from h)
theorem Y9{y:Str}(h:Afe y=true):typeLookup (.type "object") y=pure none:=by
 refine ex1 (Bl h) fun r zz=>Ac zz fun e h=>?_
 rw [typeLookup_type,builtinLookup_eq_fast,e,Option.isNone_iff_eq_none.mp h]
theorem Vu{y:Str}(h:Tw y=true):∃ r,typeLookup (.type "object") y=pure r:=by
 obtain ⟨r,e⟩:=Option.isSome_iff_exists.mp h
 exact ⟨r,by rw [typeLookup_type,builtinLookup_eq_fast,e]⟩
theorem Adc{h:Heap}{t:Addr->Option Obj}(Z:Has h t){a:Nat}(x:Ah5 t a=true):∃ o fd,h.get? a=some o/\o.cls=.type "function"/\o.data=.func fd:=by
 refine ex1 (Bl x) fun o zz=>Ac zz fun e x=>?_
 obtain ⟨p,_⟩:=Option.isSome_iff_exists.mp (an2 x)
 exact ⟨o,p.1,Fz Z e,De (an1 x),p.2⟩
theorem Aav{o:Obj}{cd:ClassData}{C:Addr}{bm:List Value}{k0 k1 k2 k3 k5:Option Value}{nw:String}(x1:o.cls=.type "type")(hd:o.data=.cls cd)(x2:cd.mro=.ref C :: bm)(x5:cd.hasDel=false)(hp:o.slots.toList=[k0,k1,k2,k3,some (.builtin nw),k5]) :
 o=excClassObj cd.name cd.qualname C cd.ns cd.bases bm cd.hasDict cd.slotNames cd.subclasses cd.abstract cd.collection o.dict k0 k1 k2 k3 k5 nw:=by
 obtain ⟨oc,od,odata,oslots⟩:=o
 obtain ⟨cn,cb,cm,cns,cq,chd,csn,csub,cab,ccol,cdel⟩:=cd
 cases x1;cases hd;cases x2;cases x5
 exact congrArg _ (Array.toList_inj.mp hp)
theorem Vv{l:List (Option Value)}{g:Option Value->Bool}{v:Value}(hg:∀ o,g o=true->o=some v)(x:(Bi (Tx l) fun q=>g q.1.2.2.2.2.1)=true):∃ k0 k1 k2 k3 k5,l=[k0,k1,k2,k3,some v,k5]:=by
 obtain ⟨q,x⟩:=Aa x
 exact ⟨q.1.1,q.1.2.1,q.1.2.2.1,q.1.2.2.2.1,q.1.2.2.2.2.2,hg _ x▸q.2⟩
theorem Vw{o:Option Value}{v:Value}(x:(Bi o fun w=>Fs w v)=true):o=some v:=by
 refine ex1 (Bl x) fun w zz=>Ac zz fun e x=>?_
 exact e.trans (congrArg some (De x))
theorem Vx{es:Array DictEntry}(x:(es.toList.all fun e=>Qf e.key)=true):∀ e∈es,∃ a b,e.key=.str a b:=fun e he=>Vt (List.all_eq_true.mp x e (Array.mem_toList_iff.mpr he))
theorem Za{t:Addr->Option Obj}(Z:Has cx.h₀ t){c:Nat}{es:Array DictEntry}{z:Str}{m k:Nat}(x:(N.meths.all fun p=>(cx.T.meth c p.2).isNone || Bi (cx.T.meth c p.2) fun k=>Bi cx.fns[k]? fun fa=>Bi (nsFind es p.1) fun v=>Fs (.ref fa) v && (Ah5 t fa && (!(cx.attrs.contains p.1) && Tw p.1)))=true)(hz:N.meths.lookup z=some m)(hk:cx.T.meth c m=some k) :
 ∃ fa fo fd,cx.fns[k]?=some fa/\nsFind es z=some (.ref fa)/\cx.h₀.get? fa=some fo/\fo.cls=.type "function"/\fo.data=.func fd/\(∀ n:Nat,cx.attrs[n]?≠some z)/\∃ r,typeLookup (.type "object") z=pure r:=by
 have x:=List.all_eq_true.mp x (z,m) (mem_of_lookup hz)
 rcases (Bool.or_eq_true _ _).mp x with q | q
 · cases hk.symm.trans (Option.isNone_iff_eq_none.mp q)
 · refine ex1 (Bl q) fun k' zz=>Ac zz fun e q1=>?_
   cases hk.symm.trans e
   refine ex1 (Bl q1) fun fa zz=>Ac zz fun hf q2=>?_
   refine ex1 (Bl q2) fun v zz=>Ac zz fun hv q=>?_
   refine ex2 (Adc Z (an1 (an2 q))) fun fo fd zz=>Ap zz fun f1 f2 f3=>?_
   exact ⟨fa,fo,fd,hf,hv.trans (congrArg some (De (an1 q)).symm),f1,f2,f3,fun n hn=>of_decide_eq_false ((List.contains_eq_mem z cx.attrs).symm.trans (not_not (an1 (an2 (an2 q))))) (zF hn),Vu (an2 (an2 (an2 q)))⟩
theorem Zb{t:Addr->Option Obj}(Z:Has cx.h₀ t){c:Nat}{v:Value}(x:Ab7 t N cx.T cx.attrs cx.fns c v=true):∃ C,v=.ref C/\ClsOk c C:=by
 obtain ⟨C,x⟩:=Aa x
 refine ex1 (Bl x) fun o zz=>Ac zz fun e x=>?_
 obtain ⟨p,x⟩:=Aa x
 have x2:=an2 x
 have x3:=an2 x2
 have x4:=an2 x3
 have x5:=an2 x4
 have x6:=an2 x5
 refine ex1 (Bl (an2 x6)) fun on zz=>Ac zz fun en x7=>?_
 obtain ⟨es,x7⟩:=Aa x7
 refine ex5 (Vv (fun _=>Vw) (an1 x6)) fun k0 k1 k2 k3 k5 hp=>?_
 have ho:=Aav (De (an1 x)) p.2 (of_decide_eq_true (an1 x2)) (not_not (an1 x5)) hp
 rw [an1 x3,not_not (an1 x4)] at ho
 have y2:=an2 x7
 have y3:=an2 y2
 have y4:=an2 y3
 have y5:=an2 y4
 exact ⟨C.1,C.2,p.1.name,p.1.qualname,p.1.ns,p.1.bases,p.1.slotNames,p.1.subclasses,p.1.collection,o.dict,k0,k1,k2,k3,k5,fun z=>nsFind es.1.1 z,ho▸Fz Z e,⟨on,es.1.1,es.1.2,Fz Z en,es.2,Vx (an1 x7),fun _=>rfl⟩,Option.isNone_iff_eq_none.mp (an1 y2),Option.isNone_iff_eq_none.mp (an1 y3),Option.isNone_iff_eq_none.mp (an1 y4),
  fun n z hz=>have w:=List.all_eq_true.mp (an1 y5) z (zF hz);⟨Option.isNone_iff_eq_none.mp (an1 w),Y9 (an2 w)⟩,fun z m k hz hk=>Za Z (an2 y5) hz hk⟩
theorem Lj{T:Tab}{t:Addr->Option Obj}{attrs:List Str}{fns:List Addr}:∀ {l:List Value} {c i:Nat} {v:Value},Kx t N T attrs fns c l=true->l[i]?=some v->(T.meth (c+i) 0).isSome=true->Ab7 t N T attrs fns (c+i) v=true
 | [],_,i,_,_,h,_=>by simp at h
 | w :: ws,c,i,v,x,h,hm=>by
  have x:=And.intro (Bool.or_eq_true _ _ |>.mp (an1 x)) (an2 x)
  cases i with
  | zero =>
   simp at h;subst h
   rcases x.1 with q | q
   · rw [Nat.add_zero,Option.isSome_iff_ne_none] at hm
     exact absurd (Option.isNone_iff_eq_none.mp q) hm
   · exact q
  | succ i =>
   have e:c+(i+1)=c+1+i:=by exact Ahd
   rw [e] at hm ⊢
   exact Lj x.2 (by simpa using h) hm
theorem S0{t:Addr->Option Obj}(Z:Has cx.h₀ t)(h1:Kx t N cx.T cx.attrs cx.fns 0 cx.cls=true)(h2:L5 N cx.attrs=true):ClsBase:=by
 have a3:=of_decide_eq_true (an1 (an2 (an2 h2)))
 have get:∀ (c:Nat) (v:Value),cx.cls[c]?=some v->(cx.T.meth c 0).isSome=true->∃ C,v=.ref C/\ClsOk c C:=fun c v hc hm=>by
  have:=Lj h1 hc (by rw [Nat.zero_add];exact hm)
  rw [Nat.zero_add] at this
  exact Zb Z this
 refine ⟨fun y n h=>?_,fun i j y hi hj=>?_,by rw [sizeLine_eq];exact o22 a3,Cq (an2 (an2 (an2 h2))),fun c v hc hm=>?_,fun c C hc hm=>?_⟩
 · refine ex1 (Bl (List.all_eq_true.mp (an1 h2) (y,n) (mem_of_lookup h))) fun z zz=>Ac zz fun hz q=>?_
   exact hz.trans (congrArg some (of_decide_eq_true q))
 · exact Gg (an1 (an2 h2)) i j y (by rw [List.getElem?_map,hi];rfl) (by rw [List.getElem?_map,hj];rfl)
 · refine ex1 (get c v hc hm) fun C zz=>Ac zz fun e _=>?_
   exact ⟨C,e⟩
 · refine ex1 (get c (.ref C) hc hm) fun C' zz=>Ac zz fun e k=>?_
   cases e;exact k
set_option tactic.hygienic true in
theorem Pq{h:Heap}{t:Addr->Option Obj}(Z:Has h t):∀ as,(J0 t as).In h
 | []=>fun a o e=>by exact Ad e
 | a :: as=>fun b o e=>by
  have e:(match t a with | some o=>(a,o) :: J0 t as | none=>J0 t as).lookup b=some o:=e
  split at e
  · rename_i o' ho
    simp only [List.lookup] at e
    split at e
    · rename_i q;cases e;rw [beq_iff_eq.mp q];exact Fz Z ho
    · exact Pq Z as b o e
  · exact Pq Z as b o e
theorem Ka{h:Heap}{t:Addr->Option Obj}(Z:Has h t){a:Addr}(x:L7 t a=true):∃ m,h.Ns a m/\m "__init__"=none:=by
 refine ex1 (Bl x) fun on zz=>Ac zz fun en x=>?_
 obtain ⟨es,x⟩:=Aa x
 exact ⟨fun z=>nsFind es.1.1 z,⟨on,es.1.1,es.1.2,Fz Z en,es.2,Vx (an1 x),fun _=>rfl⟩,Option.isNone_iff_eq_none.mp (an2 x)⟩
theorem Zc{h:Heap}{t:Addr->Option Obj}(Z:Has h t){v:Value}{bm tl:List Value}(x:Aff t v=true)(T:OwnTail h bm tl):OwnTail h bm (v :: tl):=by
 obtain ⟨a,x⟩:=Aa x
 refine ex1 (Bl x) fun o zz=>Ac zz fun e x=>?_
 obtain ⟨p,x⟩:=Aa x
 refine ex1 (Ka Z x) fun m zz=>Ac zz fun n i=>?_
 obtain ⟨oc,od,odata,oslots⟩:=o
 obtain ⟨p,hd⟩:=p
 dsimp only at hd
 subst hd
 exact a.2▸.own (Fz Z e) n i T
theorem Oa{h:Heap}{t:Addr->Option Obj}(Z:Has h t):∀ {vs:List Value},T3 t vs=true->OwnTail h Ah0 vs
 | [],x=>by cases (show false=true from x)
 | v :: vs,x=>by
  rcases (Bool.or_eq_true _ _).mp x with q | q
  · rw [of_decide_eq_true q];exact .base
  · exact Zc Z (an1 q) (Oa Z (an2 q))
theorem Ij{T:Tab}{K:PySem.W.Frag}{C:Addr}{bm:List Value}{c:Nat}:∀ {l:List Value} {d i:Nat} {D:Value},T4 T K C bm c d l=true->l[i]?=some D->Qe K D=true/\T.sub c (d+i)=(Value.ref C :: bm).contains D/\PySem.W.mroIn K C D=some (T.sub c (d+i))
 | [],_,i,_,_,h=>by simp at h
 | w :: ws,d,i,D,x,h=>by
  cases i with
  | zero =>
   simp at h;subst h
   have y:=an1 x
   exact ⟨an1 (an1 y),of_decide_eq_true (an2 (an1 y)),of_decide_eq_true (an2 y)⟩
  | succ i =>
   have e:d+(i+1)=d+1+i:=by exact Ahd
   rw [e]
   exact Ij (an2 x) (by simpa using h)
theorem Ade{K:PySem.W.Frag}{D:Addr}(x:Ake K D=true):ExcK K D :=
 have x1:=an1 (an1 (an1 (an1 x)))
 ⟨of_decide_eq_true (an1 (an1 (an1 x1))),of_decide_eq_true (an2 (an1 (an1 x1))),of_decide_eq_true (an2 (an1 x1)),an2 x1,of_decide_eq_true (an2 (an1 (an1 (an1 x)))),of_decide_eq_true (an2 (an1 (an1 x))),of_decide_eq_true (an2 (an1 x)),of_decide_eq_true (an2 x)⟩
theorem Zd{t:Addr->Option Obj}(Z:Has cx.h₀ t){c:Nat}{v:Value}(x:Ab8 t cx.T cx.cls c v=true):∃ C,v=.ref C/\ExcOk c C:=by
 obtain ⟨C,x⟩:=Aa x
 refine ex1 (Bl x) fun o zz=>Ac zz fun e x=>?_
 obtain ⟨p,x⟩:=Aa x
 have x2:=an2 x
 have x3:=an2 x2
 have x4:=an2 x3
 have x5:=an2 x4
 have x6:=an2 x5
 refine ex1 (Ka Z (an1 x5)) fun m zz=>Ac zz fun n i=>?_
 refine ex5 (Vv (fun _=>Vw) (an1 x4)) fun k0 k1 k2 k3 k5 hp=>?_
 have ho:=Aav (De (an1 x)) p.2 (of_decide_eq_true (an1 x2)) (not_not (an1 x3)) hp
 have x7:=an1 (an2 x6)
 refine ⟨C.1,C.2,⟨p.1.name,p.1.qualname,p.1.ns,p.1.bases,p.1.mro.tail,p.1.hasDict,p.1.slotNames,p.1.subclasses,p.1.abstract,p.1.collection,o.dict,k0,k1,k2,k3,k5,m,ho▸Fz Z e,n,i,Oa Z (an1 x6),fun d D hD=>?_⟩,⟨_,Pq Z _,Ade (an2 (an2 x6)),fun d D hD=>?_⟩⟩
 · have:=(Ij x7 hD).2.1
   rwa [Nat.zero_add] at this
 · have:=Ij x7 hD
   rw [Nat.zero_add] at this
   exact ⟨this.1,this.2.2⟩
theorem Ll{t:Addr->Option Obj}{T:Tab}{cls:List Value}:∀ {l:List Value} {c i:Nat} {v:Value},T5 t T cls c l=true->l[i]?=some v->T.isExc (c+i)=true->Ab8 t T cls (c+i) v=true
 | [],_,i,_,_,h,_=>by simp at h
 | w :: ws,c,i,v,x,h,hm=>by
  cases i with
  | zero =>
   simp at h;subst h
   rcases (Bool.or_eq_true _ _).mp (an1 x) with q | q
   · have hm:T.isExc c=true:=hm
     rw [hm] at q;exact Al q
   · exact q
  | succ i =>
   have e:c+(i+1)=c+1+i:=by exact Ahd
   rw [e] at hm ⊢
   exact Ll (an2 x) (by simpa using h) hm
theorem Ze{T:Tab}{c:Nat}(h:T.isExc c=true):c < T.subs.length:=by
 have h:2<=((T.subs[c]?).getD []).length:=of_decide_eq_true (an2 h)
 cases q:T.subs[c]? with
 | none=>rw [q] at h;cases (show 2<=0 from h)
 | some l=>exact (List.getElem?_eq_some_iff.mp q).1
theorem Vy{t:Addr->Option Obj}(Z:Has cx.h₀ t)(x:Qg t cx.T cx.cls=true)(c:Nat)(h:cx.T.isExc c=true):∃ C,cx.cls[c]?=some (.ref C)/\ExcOk c C:=by
 have lt:c < cx.cls.length:=zD (Ze h) (of_decide_eq_true (an2 x))
 have e:=List.getElem?_eq_getElem lt
 have y:=Ll (an1 x) e (by rw [Nat.zero_add];exact h)
 rw [Nat.zero_add] at y
 refine ex1 (Zd Z y) fun C zz=>Ac zz fun q k=>?_
 exact ⟨C,by rw [e,q],k⟩
theorem Ik{α:Type}{l:List (Str × α)}{p:Str × α->Bool}(h:l.all p=true){x:Str}{k:α}(e:l.lookup x=some k):p (x,k)=true:=List.all_eq_true.mp h _ (mem_of_lookup e)
theorem Pr{o:Option Value}{v:Value}(x:(Bi o fun w=>Fs v w)=true):o=some v:=by
 refine ex1 (Bl x) fun w zz=>Ac zz fun e x=>?_
 exact e.trans (congrArg some (De x).symm)
theorem Adf{t:Addr->Option Obj}{nss:List (List Str)}{mg mb:Str->Option Value}(Z:Has cx.h₀ t)(g:cx.h₀.Ns mainGlobals mg)(b:cx.h₀.Ns builtinsNs mb)(hb:∀ x:Str,x≠"__name__"->mb x=bootBuiltins x)(lim:cx.h₀.NoLimit)
 (ok:Tz t N cx.T cx.cls cx.fns nss=true) (okc:Kx t N cx.T cx.attrs cx.fns 0 cx.cls=true) (oka:L5 N cx.attrs=true) (okx:Qg t cx.T cx.cls=true):Base/\∀ (f:Nat) (a:Addr),cx.fns[f]?=some a->∃ g,cx.T.funs[f]?=some g:=by
 obtain ⟨hlen,hfn⟩:=N9 (an2 ok)
 refine ex1 (Bl (an1 ok)) fun o zz=>Ac zz fun e ok=>?_
 obtain ⟨es,ok⟩:=Aa ok
 have hmg:∀ x,mg x=nsFind es.1.1 x:=by
  refine Ae fun G kG=>?_
  refine ex3 g fun o' es' ep' zz=>Cl zz fun e' d' _ h'=>?_
  refine kG ?_
  cases (Fz Z e).symm.trans e'
  cases es.2.symm.trans d'
  exact fun x=>(h' x).symm
 have c2:=an2 ok
 have c3:=an2 c2
 refine ⟨⟨⟨mg,mb,g,b,fun x k h=>?_,fun x k h=>?_,fun x c h=>?_,fun p hp=>?_⟩,lim,fun k a f h1 h2=>?_,S0 Z okc oka,Vy Z okx⟩,fun f a h=>?_⟩
 · refine ex1 (Bl (Ik (an1 ok) h)) fun a zz=>Ac zz fun e q=>?_
   exact ⟨a,e,(hmg x).trans (Pr q)⟩
 · refine ex1 (Bl (Ik (an1 c2) h)) fun m zz=>Ac zz fun e q=>?_
   refine ex1 (Bl q) fun v zz=>Ac zz fun e' q=>?_
   exact ⟨m,v,e,(hmg x).trans e',fun ρ h=>Y8 q⟩
 · refine ex1 (Bl (Ik (an1 c3) h)) fun c' zz=>Ac zz fun e q=>?_
   refine ⟨c',e,((Bool.or_eq_true _ _).mp q).imp (fun q=>(hmg x).trans (Pr q)) fun q=>⟨(hmg x).trans (Option.isNone_iff_eq_none.mp (an1 q)),?_⟩⟩
   refine ex1 (Bl (an2 q)) fun v zz=>Ac zz fun e' q=>?_
   exact (hb _ (of_decide_eq_false (not_not (an2 q)))).trans (e'.trans (congrArg some (De (an1 q)).symm))
 · have q:=List.all_eq_true.mp (an2 c3) p hp
   exact ⟨(hmg _).trans (Option.isNone_iff_eq_none.mp (an1 q)),(hb _ (of_decide_eq_false (not_not (an1 (an2 q))))).trans (Pr (an2 (an2 q)))⟩
 · obtain ⟨ns,h⟩:=hfn k a f h1 h2
   exact Adb Z h
 · exact ⟨_,List.getElem?_eq_getElem (hlen▸(List.getElem?_eq_some_iff.mp h).1)⟩
theorem Adg{h:Heap}{a:Addr}{m m':Str->Option Value}(x:h.Ns a m)(y:h.Ns a m')(n:Str):m n=m' n:=by
 refine Ae fun G kG=>?_
 refine ex3 x fun o es ep zz=>Cl zz fun e d _ f=>?_
 refine ex3 y fun o' es' ep' zz=>Cl zz fun e' d' _ f'=>?_
 refine kG ?_
 rw [e] at e';cases e'
 rw [d] at d';cases d'
 rw [<- f n,f' n]
theorem S3{ρ:Rho}{h:Heap}{vs:List Value}{ns:List Int}(x:PyProof.Rows.IntsAre vs ns):VRs ρ h (ns.map .int) vs:=by
 induction x with
 | nil=>exact .nil
 | cons n tk r ih=>exact .cons (.int n tk) ih
theorem finish:Ry cx N:=by
 intro t nss k d mg mb ns vs fa a Q E Z g b hb lim ok okc oka okx hsys hobj hI hlen hf hk room hlaw kq
 refine Ae fun G kG=>?_
 obtain ⟨B,defs⟩:=Adf (nss:=nss) Z g b hb lim ok okc oka okx
 refine ex2 B.ns fun mg' mb' zz=>Cl zz fun g' b' q _=>?_
 refine ex1 (q "law" k hk) fun a' zz=>Ac zz fun ha' hx=>?_
 refine kG ?_
 have e:fa=a':=by
  have:=Adg g g' "law"
  rw [hf,hx] at this
  cases this;rfl
 subst e
 obtain ⟨o1,e1⟩:=Option.isSome_iff_exists.mp hsys
 have R:Rel [] [] cx.s₀ :=
  ⟨rfl,fun l o p h _=>by simp at h,fun i j p q _ h _=>by simp at h,fun p hp=>by simp at hp,fun _ _ e=>e,⟨o1,Fz Z e1⟩,⟨cx.s₀.heap,cx.s₀.toks,rfl⟩⟩
 obtain ⟨H',hH⟩:=hlaw
 have x:=Vs B defs d k fa [.script ns] [.ref a] callerA [] ha' room.toF rfl [] [] cx.s₀ R ⟨.cons (.script hobj (by rw [sizeLine_eq];exact Apl hlen) (S3 hI)) .nil,fun en he=>by cases he⟩
 change A8 callerA (Af cx.T d k [.script ns] []) _ _ _ _ at x
 rw [hH] at x
 refine zE x (fun v s' ⟨ρ',F,R',vr⟩=>?_) fun _ _ q=>q.elim
 have vr':VR ρ' s'.heap (.bool true) v:=vr
 cases vr'
 refine ex2 R'.rest fun h tk e=>?_
 exact kq s' R'.base (by rw [e]) (by rw [e])
end Mine.Internal
namespace Mine.Internal
open PySem PySem.W PySem.Calls
noncomputable def Kb(tb:String->Option Builtin)(p:Program)(w:World)(n₀:Nat)(ann:Option Value):Nat->SharedT->Thread->Option SharedT
 | 0,_,_=>none
 | n+1,s,t=>match through t with
  | true=>some s
  | false=>match stepOk n₀ ann t with
   | false=>none
   | true=>match stepT (denote tb) p w s t with
    | some (s',t')=>Kb tb p w n₀ ann n s' t'
    | none=>none
theorem I6{tb:String->Option Builtin}{p:Program}{w:World}{n₀:Nat}{ann:Option Value}{n:Nat}{s:SharedT}{t:Thread}:Kb tb p w n₀ ann (n+1) s t=(match through t with
 | true=>some s
 | false=>match stepOk n₀ ann t with
  | false=>none
  | true=>match stepT (denote tb) p w s t with
   | some (s',t')=>Kb tb p w n₀ ann n s' t'
   | none=>none):=rfl
theorem Lm{tb:String->Option Builtin}{p:Program}{w:World}{n₀:Nat}{ann:Option Value}:∀ {n:Nat} {s s':SharedT} {t:Thread},Kb tb p w n₀ ann n s t=some s'->topRun tb p w n₀ ann n s.abs t=some s'.abs
 | 0,_,_,_,h=>by cases h
 | n+1,s,s',t,h=>by
  rw [I6] at h
  unfold topRun
  cases ht:through t with
  | true=>rw [ht] at h;cases h;rfl
  | false =>
   rw [ht] at h
   cases hk:stepOk n₀ ann t with
   | false=>rw [hk] at h;cases h
   | true =>
    rw [hk] at h
    cases hs:stepT (denote tb) p w s t with
    | none=>rw [hs] at h;exact nomatch h
    | some r=>obtain ⟨s₂,t₂⟩:=r;rw [hs] at h;rw [stepT_spec hs];exact Lm h
noncomputable def Ps(p:Program)(w:World)(n₀:Nat)(ann:Option Value)(n:Nat):SharedT->Thread->Option SharedT :=
 @Nat.rec (fun _=>SharedT->Thread->Option SharedT) (fun _ _=>none) (fun _ ih s t=>@Bool.rec (fun _=>Option SharedT)
  (@Bool.rec (fun _=>Option SharedT) none (@Option.rec (SharedT × Thread) (fun _=>Option SharedT) none (fun r=>ih r.1 r.2) (PySem.W.Fast.tw10156331382660048174 (PySem.W.Fast.tw11892475500146522536 treeTable) p w s t)) (PySem.W.Fast.tw6613529449190102663 n₀ ann t)) (some s) (through t)) n
theorem Ln{p:Program}{w:World}{n₀:Nat}{ann:Option Value}:∀ (n:Nat) (s:SharedT) (t:Thread),Ps p w n₀ ann n s t=Kb treeTable p w n₀ ann n s t
 | 0,_,_=>rfl
 | n+1,s,t=>by
  show @Bool.rec (fun _=>Option SharedT) (@Bool.rec (fun _=>Option SharedT) none (@Option.rec (SharedT × Thread) (fun _=>Option SharedT) none (fun r=>Ps p w n₀ ann n r.1 r.2) (PySem.W.Fast.tw10156331382660048174 (PySem.W.Fast.tw11892475500146522536 treeTable) p w s t)) (PySem.W.Fast.tw6613529449190102663 n₀ ann t)) (some s) (through t)=_
  rw [<- PySem.W.Fast.te10156331382660048174,<- PySem.W.Fast.te11892475500146522536,<- PySem.W.Fast.te6613529449190102663]
  rw [I6]
  cases through t with
  | true=>rfl
  | false =>
   cases stepOk n₀ ann t with
   | false=>rfl
   | true =>
    cases hs:stepT (denote treeTable) p w s t with
    | none=>rfl
    | some r=>obtain ⟨s₂,t₂⟩:=r;exact Ln n s₂ t₂
noncomputable def Aig(P:Params):BT:=((boot_heap P).objs.toList.foldl (fun (x:BT × Nat) o=>(x.1.ins x.2 o,x.2+1)) (.nil,0)).1
noncomputable def Af3(w:World)(os:OsState):SharedT:=⟨Aig w.params,(boot_heap w.params).objs.size,(boot_heap w.params).life,#[],boot_drawn,boot_toks,os⟩
theorem Vz(w:World):((boot_heap w.params).isNs mainGlobals && (#[]:Array GenState).size == 0,(boot_heap w.params).objs.size,(boot_heap w.params).nsMap mainGlobals "__annotations__")=(true,11,some (.ref 6)):=by kernel_rfl
theorem V0(w:World)(os:OsState):(Af3 w os).abs=⟨boot_heap w.params,#[],boot_drawn,boot_toks,os⟩:=by kernel_rfl
theorem Adh{p q:Program}{loose:List Str}{Xt:Shared->Bool}{α:Type}{Yf:Shared->α}{Ya:World->α}{N M:Nat}{g0:Bool}
 (e:opening p=plainProg p.main.scope.names) (hN:Nat.ble 600 N=true) (f:∀ s,fenceModules? p s=some s) (le:Nat.ble M N=true)
 (run:∀ (w:World) (os:OsState),(Ps p w 11 (some (.ref 6)) M (Af3 w os) (topStub p)).map (fun s=>(staticsOk (importedModules p.main.body) (boot_heap w.params) s.abs.heap && namesBound p s.abs.heap && gensDone s.abs && laidKept (boot_heap w.params) s.abs.heap,
  openSeen q loose (importedModules p.main.body) Xt g0 s.abs,Yf s.abs))=some (true,openGood q loose,Ya w)):LeftO p q loose Xt Yf Ya N g0:=fun w=>by
 refine ex1 (Option.map_eq_some_iff.mp (boot_open e hN f w)) fun zn0 zz=>Ac zz fun e1 e'=>?_;obtain ⟨h,gs,d,k,os⟩:=zn0
 obtain ⟨rfl,rfl,rfl,rfl⟩:h=boot_heap w.params/\gs=#[]/\d=boot_drawn/\k=boot_toks:=by simpa using e'
 obtain ⟨z1,z2,z3⟩:_/\_/\_:=by simpa only [Prod.mk.injEq] using Vz w
 refine ex1 (Option.map_eq_some_iff.mp (run w os)) fun s zz=>Ac zz fun h1 h2=>?_
 obtain ⟨l1,l2,l3⟩:_/\_/\_:=by simpa only [Prod.mk.injEq] using h2
 rw [Ln] at h1
 have r:=Lm h1
 rw [V0] at r
 replace r:=topRun_mono (N - M) _ _ _ _ r
 rw [show M+(N - M)=N by have:=Nat.le_of_ble_eq_true le;exact o65 this] at r
 have t:topFrom treeTable p w N ⟨boot_heap w.params,#[],boot_drawn,boot_toks,os⟩=some s.abs:=by
  unfold topFrom
  dsimp only
  rw [z1,z2,z3,r]
  show (match staticsOk (importedModules p.main.body) (boot_heap w.params) s.abs.heap && namesBound p s.abs.heap && gensDone s.abs && laidKept (boot_heap w.params) s.abs.heap with | true=>_ | false=>_)=_
  rw [l1]
 unfold openEnds
 rw [e1]
 show (topFrom treeTable p w N _).map _=_
 rw [t]
 exact congrArg some (Prod.ext l2 l3)
end Mine.Internal
namespace Mine.Internal.Pure
open PySem
section
variable{α β:Type}{m:M α}{f:α->M β}{H H':Hp}{a:α}{T:Tab}{Φ:Funs}{Γ:Env'}
theorem fcn{α:Type}{p:α->Prop}:∀ x∈([]:List α),p x:=fun _ h=>nomatch h
theorem fc{α:Type}{p:α->Prop}{a:α}{l:List α}(h:p a)(k:∀ x∈l,p x):∀ x∈a :: l,p x:=List.forall_mem_cons.mpr ⟨h,k⟩
theorem Aaw(a:α)(H:Hp):M.ret a H=.ok a H:=rfl
theorem Db(f:Hp->Option α)(H:Hp):M.look f H=(match f H with | some a=>.ok a H | none=>.bad):=rfl
theorem Mp(ns:List Int):bfV .len [.script ns]=M.ret (.int ns.length):=by
 funext H
 show (match (some (Val.int (ns.map Val.int).length):Option Val) with | some a=>Res.ok a H | none=>.bad)=_
 rw [List.length_map];rfl
theorem S4{l:Nat}{xs:List Val}{H:Hp}(h:H[l]?=some (.list xs)):bfV .len [.loc l] H=.ok (.int xs.length) H:=by
 have e:bfV .len [.loc l]=M.look (fun H=>(C1 (.loc l) H).map fun xs=>Val.int xs.length):=rfl
 rw [e,Db]
 rw [Xq h];rfl
theorem add_int(x y:Int):Aer .add (.int x) (.int y)=M.ret (.int (x+y)):=rfl
theorem sub_int(x y:Int):Aer .sub (.int x) (.int y)=M.ret (.int (x - y)):=rfl
theorem S5{ns:List Int}{k:Nat}{v:Int}(h:ns[k]?=some v):Dm (.script ns) (.int k)=M.ret (.int v):=by
 have lt:=(List.getElem?_eq_some_iff.mp h).1
 funext H
 have e:Dm (.script ns) (.int k)=M.look (fun _=>(C2 (k:Int) ns.length).bind fun p=>(ns[p]?).map Val.int):=rfl
 have:C2 (k:Int) ns.length=some k:=by
  unfold C2
  rw [if_pos (by exact P9),if_pos (by exact Aac lt)];rfl
 rw [e,Db,this]
 simp only [Option.bind_some,h,Option.map_some,Aaw]
theorem sub_tup{xs:List Val}{k:Nat}{v:Val}(h:xs[k]?=some v):Dm (.tup xs) (.int k)=M.ret v:=by
 funext H
 have e:Dm (.tup xs) (.int k)=M.look (fun _=>if 0<=(k:Int) then xs[(k:Int).toNat]? else none):=rfl
 rw [e,Db]
 simp only [if_pos (show 0<=(k:Int) by exact P9),Int.toNat_natCast,h,Aaw]
theorem Adi{d k:Nat}{g:MFun}{args:List Val}(h:T.funs[k]?=some g)(ha:args.length=g.arity) :
 Af T (d+1) k args H=Abr (execSs T (Af T d) g.body (args.map some++List.replicate g.nvars none) H):=by
 rw [Af,h]
 show Agy T (Af T d) g args H=_
 unfold Agy
 rw [if_pos ha]
end
noncomputable def Wp{α:Type}(m:M α)(H:Hp)(Q:α->Hp->Prop)(E:Nat->Hp->Prop):Prop :=
 match m H with
 | .ok a H'=>Q a H'
 | .exc c H'=>E c H'
 | .bad=>False
noncomputable def WpS(r:ResS)(Q:Env'->Hp->Prop)(R:Val->Hp->Prop)(E:Nat->Env'->Hp->Prop):Prop :=
 match r with
 | .next Γ H=>Q Γ H
 | .ret v H=>R v H
 | .exc c Γ H=>E c Γ H
 | .bad=>False
noncomputable def Rb:Env'->Nat->(Val->Prop)->Prop
 | [],_,_=>False
 | some v :: _,0,k=>k v
 | none :: _,0,_=>False
 | _ :: Γ,n+1,k=>Rb Γ n k
noncomputable def Eg:Val->(Bool->Prop)->Prop
 | .bool b,k=>k b
 | _,_=>False
noncomputable def Er{α:Type}:Option α->(α->Prop)->Prop
 | some a,k=>k a
 | none,_=>False
noncomputable def brB:Bool->Prop->Prop->Prop
 | true,a,_=>a
 | false,_,b=>b
noncomputable def NoE:Nat->Hp->Prop:=fun _ _=>False
noncomputable def NoX:Nat->Env'->Hp->Prop:=fun _ _ _=>False
noncomputable def Mq(op:BOp)(a b:Val)(H:Hp)(Q:Val->Hp->Prop)(E:Nat->Hp->Prop):Prop :=
 match a,b with
 | .int x,.int y=>(match op with
  | .add=>Q (.int (x+y)) H
  | .sub=>Q (.int (x - y)) H
  | .mul=>(small x || small y)=true/\Q (.int (x * y)) H
  | .fdiv=>¬(y=0\/1073741824<=y.natAbs)/\Q (.int (Int.fdiv x y)) H
  | .mod=>¬(y=0)/\Q (.int (Int.fmod x y)) H)
 | a,b=>Wp (Aer op a b) H Q E
mutual
noncomputable def wpE(T:Tab)(Φ:Funs):ME->Env'->Hp->(Val->Hp->Prop)->(Nat->Hp->Prop)->Prop
 | .none,_,H,Q,_=>Q .none H
 | .bool b,_,H,Q,_=>Q (.bool b) H
 | .int i,_,H,Q,_=>Q (.int i) H
 | .str s,_,H,Q,_=>Q (.str s) H
 | .glob k,_,H,Q,_=>Er T.globs[k]? fun v=>Q v H
 | .var i,Γ,H,Q,_=>Rb Γ i fun v=>Q v H
 | .bin op a b,Γ,H,Q,E=>wpE T Φ a Γ H (fun x H=>wpE T Φ b Γ H (fun y H=>Mq op x y H Q E) E) E
 | .neg a,Γ,H,Q,E=>Wp (Aj T Φ (.neg a) Γ) H Q E
 | .not a,Γ,H,Q,E=>wpE T Φ a Γ H (fun x H=>Eg x fun b=>Q (.bool (!b)) H) E
 | .and a b,Γ,H,Q,E=>wpE T Φ a Γ H (fun x H=>Eg x fun t=>brB t (wpE T Φ b Γ H Q E) (Q (.bool false) H)) E
 | .or a b,Γ,H,Q,E=>wpE T Φ a Γ H (fun x H=>Eg x fun t=>brB t (Q (.bool true) H) (wpE T Φ b Γ H Q E)) E
 | .cmp op a b,Γ,H,Q,E=>wpE T Φ a Γ H (fun x H=>wpE T Φ b Γ H (fun y H=>Er (D2 op x y H) fun r=>Q (.bool r) H) E) E
 | .cmp2 op1 op2 a b c,Γ,H,Q,E=>wpE T Φ a Γ H (fun x H=>wpE T Φ b Γ H (fun y H=>Er (D2 op1 x y H) fun r=>brB r (wpE T Φ c Γ H (fun z H=>Er (D2 op2 y z H) fun r=>Q (.bool r) H) E) (Q (.bool false) H)) E) E
 | .sub a i,Γ,H,Q,E=>wpE T Φ a Γ H (fun x H=>wpE T Φ i Γ H (fun y H=>Wp (Dm x y) H Q E) E) E
 | .tup es,Γ,H,Q,E=>wpEs T Φ es Γ H (fun vs H=>Q (.tup vs) H) E
 | .list es,Γ,H,Q,E=>wpEs T Φ es Γ H (fun vs H=>Q (.loc H.length) (H++[.list vs])) E
 | .dict,_,H,Q,_=>Q (.loc H.length) (H++[.dict []])
 | .attr a n,Γ,H,Q,E=>wpE T Φ a Γ H (fun x H=>Wp (Ja x n) H Q E) E
 | .call f es,Γ,H,Q,E=>wpEs T Φ es Γ H (fun vs H=>Wp (Φ f vs) H Q E) E
 | .new c es,Γ,H,Q,E=>Er (T.meth c 0) (fun _=>wpEs T Φ es Γ H (fun vs H=>Wp (Ru T Φ c vs) H Q E) E)
 | .umeth a m es,Γ,H,Q,E=>wpE T Φ a Γ H (fun o H=>Wp (Cu T o m) H (fun k H=>wpEs T Φ es Γ H (fun vs H=>Wp (Φ k (o :: vs)) H Q E) E) E) E
 | .bf f es,Γ,H,Q,E=>wpEs T Φ es Γ H (fun vs H=>Wp (bfV f vs) H Q E) E
 | .bm a m es,Γ,H,Q,E=>wpE T Φ a Γ H (fun o H=>Er (Fr m o H) fun _=>wpEs T Φ es Γ H (fun vs H=>Wp (bmV m o vs) H Q E) E) E
 | .isinst a t,Γ,H,Q,E=>wpE T Φ a Γ H (fun x H=>Wp (Ba T x t) H Q E) E
 | .comp elt it cond,Γ,H,Q,E=>Wp (Aj T Φ (.comp elt it cond) Γ) H Q E
noncomputable def wpO(T:Tab)(Φ:Funs):MEo->Env'->Hp->(Val->Hp->Prop)->(Nat->Hp->Prop)->Prop
 | .none,_,H,Q,_=>Q .none H
 | .some e,Γ,H,Q,E=>wpE T Φ e Γ H Q E
noncomputable def wpEs(T:Tab)(Φ:Funs):MEs->Env'->Hp->(List Val->Hp->Prop)->(Nat->Hp->Prop)->Prop
 | .nil,_,H,Q,_=>Q [] H
 | .cons e es,Γ,H,Q,E=>wpE T Φ e Γ H (fun v H=>wpEs T Φ es Γ H (fun vs H=>Q (v :: vs) H) E) E
end
mutual
noncomputable def wpS(T:Tab)(Φ:Funs):MS->Env'->Hp->(Env'->Hp->Prop)->(Val->Hp->Prop)->(Nat->Env'->Hp->Prop)->Prop
 | .expr e,Γ,H,Q,_,E=>wpE T Φ e Γ H (fun _ H=>Q Γ H) fun c H=>E c Γ H
 | .assign i e,Γ,H,Q,_,E=>wpE T Φ e Γ H (fun v H=>Q (Γ.set i (some v)) H) fun c H=>E c Γ H
 | .setattr o n e,Γ,H,Q,_,E=>wpE T Φ e Γ H (fun v H=>wpE T Φ o Γ H (fun o H=>Wp (Bo o n v) H (fun _ H=>Q Γ H) fun c H=>E c Γ H) fun c H=>E c Γ H) fun c H=>E c Γ H
 | .setitem o i e,Γ,H,Q,_,E=>wpE T Φ e Γ H (fun v H=>wpE T Φ o Γ H (fun o H=>wpE T Φ i Γ H (fun i H=>Wp (A4 o i v) H (fun _ H=>Q Γ H) fun c H=>E c Γ H) fun c H=>E c Γ H) fun c H=>E c Γ H) fun c H=>E c Γ H
 | .ret e,Γ,H,_,R,E=>wpO T Φ e Γ H R fun c H=>E c Γ H
 | .ite c t f,Γ,H,Q,R,E=>wpE T Φ c Γ H (fun v H=>Eg v fun b=>brB b (wpSs T Φ t Γ H Q R E) (wpSs T Φ f Γ H Q R E)) fun c H=>E c Γ H
 | .raise c _,Γ,H,_,_,E=>T.isExc c=true/\E c Γ H
 | .loop c b,Γ,H,Q,R,E=>WpS (Da T Φ (.loop c b) Γ H) Q R E
 | .each i a b,Γ,H,Q,R,E=>WpS (Da T Φ (.each i a b) Γ H) Q R E
 | .eachZip i j a b c,Γ,H,Q,R,E=>WpS (Da T Φ (.eachZip i j a b c) Γ H) Q R E
 | .tryx a b,Γ,H,Q,R,E=>WpS (Da T Φ (.tryx a b) Γ H) Q R E
noncomputable def wpSs(T:Tab)(Φ:Funs):MSs->Env'->Hp->(Env'->Hp->Prop)->(Val->Hp->Prop)->(Nat->Env'->Hp->Prop)->Prop
 | .nil,Γ,H,Q,_,_=>Q Γ H
 | .cons s ss,Γ,H,Q,R,E=>wpS T Φ s Γ H (fun Γ H=>wpSs T Φ ss Γ H Q R E) R E
end
section
variable{α β:Type}{T:Tab}{Φ:Funs}{Γ:Env'}{H:Hp}
variable{Q:Val->Hp->Prop}{E:Nat->Hp->Prop}{QS:Env'->Hp->Prop}{R:Val->Hp->Prop}{ES:Nat->Env'->Hp->Prop}
theorem Ob{Q:α->Hp->Prop}(a:α):Wp (M.ret a) H Q E=Q a H:=rfl
theorem A0{Q:β->Hp->Prop}(m:M α)(f:α->M β):Wp (m.bnd f) H Q E=Wp m H (fun a H'=>Wp (f a) H' Q E) E:=by
 unfold Wp M.bnd
 cases m H <;> rfl
theorem Zf(o:HObj):Wp (M.alloc o) H Q E=Q (.loc H.length) (H++[o]):=rfl
theorem Wp.mono{Q Q':α->Hp->Prop}{E':Nat->Hp->Prop}{m:M α}(h:Wp m H Q E)(hq:∀ a H',Q a H'->Q' a H')(he:∀ c H',E c H'->E' c H'):Wp m H Q' E':=by
 unfold Wp at h ⊢
 cases hm:m H with
 | ok a H'=>rw [hm] at h;exact hq _ _ h
 | exc c H'=>rw [hm] at h;exact he _ _ h
 | bad=>rw [hm] at h;exact h
theorem Wp.then{Q Q':α->Hp->Prop}{m:M α}(h:Wp m H Q NoE)(hq:∀ a H',Q a H'->Q' a H'):Wp m H Q' E :=
 h.mono hq (fun _ _ f=>f.elim)
theorem Wp.of_eq{Q:α->Hp->Prop}{m:M α}{a:α}{H':Hp}(h:m H=.ok a H')(q:Q a H'):Wp m H Q E:=by
 unfold Wp;rw [h];exact q
theorem Wp.get{Q:α->Hp->Prop}{m:M α}(h:Wp m H Q NoE):∃ a H',m H=.ok a H'/\Q a H':=by
 unfold Wp at h
 cases hm:m H with
 | ok a H'=>rw [hm] at h;exact ⟨a,H',rfl,h⟩
 | exc c H'=>rw [hm] at h;exact h.elim
 | bad=>rw [hm] at h;exact h.elim
theorem WpS.mono{r:ResS}{Q':Env'->Hp->Prop}{R':Val->Hp->Prop}{E':Nat->Env'->Hp->Prop}(h:WpS r QS R ES)(hq:∀ Γ H',QS Γ H'->Q' Γ H')(hr:∀ v H',R v H'->R' v H')(he:∀ c Γ H',ES c Γ H'->E' c Γ H'):WpS r Q' R' E':=by
 cases r with
 | next Γ H=>exact hq _ _ h
 | ret v H=>exact hr _ _ h
 | exc c Γ H=>exact he _ _ _ h
 | bad=>exact h
theorem Cm(m:M α)(Γ:Env')(f:α->Hp->ResS):WpS (Gm m Γ f H) QS R ES=Wp m H (fun a H'=>WpS (f a H') QS R ES) (fun c H'=>ES c Γ H'):=by
 unfold Wp Gm
 cases m H <;> rfl
theorem Rd(r:ResS)(f:Env'->Hp->ResS):WpS (Nj r f) QS R ES=WpS r (fun Γ H=>WpS (f Γ H) QS R ES) R ES:=by
 cases r <;> rfl
theorem Aax{Q:α->Hp->Prop}(o:Option α):Wp (M.ofOpt o) H Q E=Er o (fun v=>Q v H):=by cases o <;> rfl
theorem G4{Q:α->Hp->Prop}(f:Hp->Option α):Wp (M.look f) H Q E=Er (f H) (fun v=>Q v H):=by
 unfold Wp M.look
 cases f H <;> rfl
theorem Eh:∀ (Γ:Env') (i:Nat) (k:Val->Prop),Rb Γ i k=Er (match Γ[i]? with | some (some v)=>some v | _=>none) k
 | [],i,k=>by cases i <;> rfl
 | some v :: Γ,0,k=>rfl
 | none :: Γ,0,k=>rfl
 | o :: Γ,i+1,k=>by
  have:Rb (o :: Γ) (i+1) k=Rb Γ i k:=by cases o <;> rfl
  rw [this,Eh Γ i k,List.getElem?_cons_succ]
theorem Ag(v:Val)(Γ:Env')(k:Val->Prop):Rb (some v :: Γ) 0 k=k v:=rfl
theorem Ao(o:Option Val)(Γ:Env')(n:Nat)(k:Val->Prop):Rb (o :: Γ) (n+1) k=Rb Γ n k:=by cases o <;> rfl
theorem Di(v:Val)(Γ:Env')(n:Nat)(k:Val->Prop):Rb (some v :: Γ) (n+1) k=Rb Γ n k:=rfl
theorem V3(Γ:Env')(n:Nat)(k:Val->Prop):Rb (none :: Γ) (n+1) k=Rb Γ n k:=rfl
theorem Ai(b:Bool)(k:Bool->Prop):Eg (.bool b) k=k b:=rfl
theorem C5{α:Type}(a:α)(k:α->Prop):Er (some a) k=k a:=rfl
theorem B9{α:Type}{o:Option α}{a:α}(h:o=some a)(k:α->Prop):Er o k=k a:=by rw [h];rfl
theorem Ct(A B:Prop):brB true A B=A:=rfl
theorem D8(A B:Prop):brB false A B=B:=rfl
theorem F5(b:Bool)(A B:Prop):brB (!b) A B=brB b B A:=by cases b <;> rfl
theorem C6{p:Prop}[Decidable p](h:p)(A B:Prop):brB (decide p) A B=A:=by rw [decide_eq_true h];rfl
theorem Ca{p:Prop}[Decidable p](h:¬p)(A B:Prop):brB (decide p) A B=B:=by rw [decide_eq_false h];rfl
theorem Hu{p:Prop}[Decidable p]{A B:Prop}(h1:p->A)(h2:¬p->B):brB (decide p) A B:=by
 by_cases h:p
 · rw [C6 h];exact h1 h
 · rw [Ca h];exact h2 h
theorem Dj{b:Bool}{A B:Prop}(h1:b=true->A)(h2:b=false->B):brB b A B:=by
 cases b
 · exact h2 rfl
 · exact h1 rfl
theorem Hv{Q:Bool->Hp->Prop}(v:Val):Wp (C3 v) H Q E=Eg v (fun b=>Q b H):=by cases v <;> rfl
theorem Kc(x:Val)(A B:Prop)(f:Bool->Prop)(h1:f true=A)(h2:f false=B):Eg x f=Eg x (fun t=>brB t A B):=by
 cases x with
 | bool b=>cases b;exact h2;exact h1
 | _=>rfl
theorem Adk(x:Option Bool)(A B:Prop)(f:Bool->Prop)(h1:f true=A)(h2:f false=B):Er x f=Er x (fun t=>brB t A B):=by
 cases x with
 | some b=>cases b;exact h2;exact h1
 | _=>rfl
theorem Aay{Q:α->Hp->Prop}(p:Prop)[Decidable p](m:M α):Wp (if p then m else M.bad) H Q E=(p/\Wp m H Q E):=by
 by_cases h:p
 · rw [if_pos h];simp [h]
 · rw [if_neg h];simp [h];exact fun h=>h
theorem V4{Q:α->Hp->Prop}(p:Prop)[Decidable p](m:M α):Wp (if p then M.bad else m) H Q E=(¬p/\Wp m H Q E):=by
 by_cases h:p
 · rw [if_pos h];simp [h];exact fun h=>h
 · rw [if_neg h];simp [h]
theorem Zg(op:BOp)(a b:Val):Wp (Aer op a b) H Q E=Mq op a b H Q E:=by
 unfold Mq
 split
 · cases op with
   | add=>rfl
   | sub=>rfl
   | mul=>exact Aay _ _
   | fdiv=>exact V4 _ _
   | mod=>exact V4 _ _
 · rfl
theorem E9:wpE T Φ .none Γ H Q E=Q .none H:=rfl
theorem Il(b:Bool):wpE T Φ (.bool b) Γ H Q E=Q (.bool b) H:=rfl
theorem A3(i:Int):wpE T Φ (.int i) Γ H Q E=Q (.int i) H:=rfl
theorem Re(s:Str):wpE T Φ (.str s) Γ H Q E=Q (.str s) H:=rfl
theorem wp_glob(k:Nat):wpE T Φ (.glob k) Γ H Q E=Er T.globs[k]? (fun v=>Q v H):=rfl
theorem A2(i:Nat):wpE T Φ (.var i) Γ H Q E=Rb Γ i (fun v=>Q v H):=rfl
theorem Bv(op:BOp)(a b:ME):wpE T Φ (.bin op a b) Γ H Q E=wpE T Φ a Γ H (fun x H=>wpE T Φ b Γ H (fun y H=>Mq op x y H Q E) E) E:=rfl
theorem Dk(a:ME):wpE T Φ (.not a) Γ H Q E=wpE T Φ a Γ H (fun x H=>Eg x fun b=>Q (.bool (!b)) H) E:=rfl
theorem F6(a b:ME):wpE T Φ (.and a b) Γ H Q E=wpE T Φ a Γ H (fun x H=>Eg x fun t=>brB t (wpE T Φ b Γ H Q E) (Q (.bool false) H)) E:=rfl
theorem Im(a b:ME):wpE T Φ (.or a b) Γ H Q E=wpE T Φ a Γ H (fun x H=>Eg x fun t=>brB t (Q (.bool true) H) (wpE T Φ b Γ H Q E)) E:=rfl
theorem Bf(op:COp)(a b:ME):wpE T Φ (.cmp op a b) Γ H Q E=wpE T Φ a Γ H (fun x H=>wpE T Φ b Γ H (fun y H=>Er (D2 op x y H) fun r=>Q (.bool r) H) E) E:=rfl
theorem Io(op1 op2:COp)(a b c:ME):wpE T Φ (.cmp2 op1 op2 a b c) Γ H Q E=wpE T Φ a Γ H (fun x H=>wpE T Φ b Γ H (fun y H=>Er (D2 op1 x y H) fun r=>brB r (wpE T Φ c Γ H (fun z H=>Er (D2 op2 y z H) fun r=>Q (.bool r) H) E) (Q (.bool false) H)) E) E:=rfl
theorem A7(a i:ME):wpE T Φ (.sub a i) Γ H Q E=wpE T Φ a Γ H (fun x H=>wpE T Φ i Γ H (fun y H=>Wp (Dm x y) H Q E) E) E:=rfl
theorem Mr:wpO T Φ .none Γ H Q E=Q .none H:=rfl
theorem Bd(e:ME):wpO T Φ (.some e) Γ H Q E=wpE T Φ e Γ H Q E:=rfl
theorem Hw(es:MEs):wpE T Φ (.tup es) Γ H Q E=wpEs T Φ es Γ H (fun vs H=>Q (.tup vs) H) E:=rfl
theorem En(es:MEs):wpE T Φ (.list es) Γ H Q E=wpEs T Φ es Γ H (fun vs H=>Q (.loc H.length) (H++[.list vs])) E:=rfl
theorem Ke:wpE T Φ .dict Γ H Q E=Q (.loc H.length) (H++[.dict []]):=rfl
theorem Dq(a:ME)(n:Nat):wpE T Φ (.attr a n) Γ H Q E=wpE T Φ a Γ H (fun x H=>Wp (Ja x n) H Q E) E:=rfl
theorem Ax(f:Nat)(es:MEs):wpE T Φ (.call f es) Γ H Q E=wpEs T Φ es Γ H (fun vs H=>Wp (Φ f vs) H Q E) E:=rfl
theorem Rf(c:Nat)(es:MEs):wpE T Φ (.new c es) Γ H Q E=Er (T.meth c 0) (fun _=>wpEs T Φ es Γ H (fun vs H=>Wp (Ru T Φ c vs) H Q E) E):=rfl
theorem Bx(a:ME)(m:Nat)(es:MEs):wpE T Φ (.umeth a m es) Γ H Q E=wpE T Φ a Γ H (fun o H=>Wp (Cu T o m) H (fun k H=>wpEs T Φ es Γ H (fun vs H=>Wp (Φ k (o :: vs)) H Q E) E) E) E:=rfl
theorem Eb(f:BF)(es:MEs):wpE T Φ (.bf f es) Γ H Q E=wpEs T Φ es Γ H (fun vs H=>Wp (bfV f vs) H Q E) E:=rfl
theorem Pt(a:ME)(m:BM)(es:MEs):wpE T Φ (.bm a m es) Γ H Q E=wpE T Φ a Γ H (fun o H=>Er (Fr m o H) fun _=>wpEs T Φ es Γ H (fun vs H=>Wp (bmV m o vs) H Q E) E) E:=rfl
theorem Dl(a:ME)(t:Ty):wpE T Φ (.isinst a t) Γ H Q E=wpE T Φ a Γ H (fun x H=>Wp (Ba T x t) H Q E) E:=rfl
theorem Aq{Q:List Val->Hp->Prop}:wpEs T Φ .nil Γ H Q E=Q [] H:=rfl
theorem Ah{Q:List Val->Hp->Prop}(e:ME)(es:MEs):wpEs T Φ (.cons e es) Γ H Q E=wpE T Φ e Γ H (fun v H=>wpEs T Φ es Γ H (fun vs H=>Q (v :: vs) H) E) E:=rfl
theorem Cb:wpSs T Φ .nil Γ H QS R ES=QS Γ H:=rfl
theorem Ak(s:MS)(ss:MSs):wpSs T Φ (.cons s ss) Γ H QS R ES=wpS T Φ s Γ H (fun Γ H=>wpSs T Φ ss Γ H QS R ES) R ES:=rfl
theorem Gi(e:ME):wpS T Φ (.expr e) Γ H QS R ES=wpE T Φ e Γ H (fun _ H=>QS Γ H) (fun c H=>ES c Γ H):=rfl
theorem Ex(i:Nat)(e:ME):wpS T Φ (.assign i e) Γ H QS R ES=wpE T Φ e Γ H (fun v H=>QS (Γ.set i (some v)) H) (fun c H=>ES c Γ H):=rfl
theorem Bt(e:MEo):wpS T Φ (.ret e) Γ H QS R ES=wpO T Φ e Γ H R (fun c H=>ES c Γ H):=rfl
theorem Bm(c:ME)(t f:MSs):wpS T Φ (.ite c t f) Γ H QS R ES=wpE T Φ c Γ H (fun v H=>Eg v fun b=>brB b (wpSs T Φ t Γ H QS R ES) (wpSs T Φ f Γ H QS R ES)) (fun c H=>ES c Γ H):=rfl
theorem Fa(o:ME)(n:Nat)(e:ME):wpS T Φ (.setattr o n e) Γ H QS R ES=wpE T Φ e Γ H (fun v H=>wpE T Φ o Γ H (fun o H=>Wp (Bo o n v) H (fun _ H=>QS Γ H) (fun c H=>ES c Γ H)) (fun c H=>ES c Γ H)) (fun c H=>ES c Γ H):=rfl
theorem Cd(o i e:ME):wpS T Φ (.setitem o i e) Γ H QS R ES=wpE T Φ e Γ H (fun v H=>wpE T Φ o Γ H (fun o H=>wpE T Φ i Γ H (fun i H=>Wp (A4 o i v) H (fun _ H=>QS Γ H) (fun c H=>ES c Γ H)) (fun c H=>ES c Γ H)) (fun c H=>ES c Γ H)) (fun c H=>ES c Γ H):=rfl
theorem Kf(c:Nat)(m:Str):wpS T Φ (.raise c m) Γ H QS R ES=(T.isExc c=true/\ES c Γ H):=rfl
theorem Af4(T:Tab)(c:Nat)(Γ:Env')(H:Hp)(Q:Env'->Hp->Prop)(R:Val->Hp->Prop)(E:Nat->Env'->Hp->Prop):WpS (if T.isExc c=true then .exc c Γ H else .bad) Q R E=(T.isExc c=true/\E c Γ H):=by
 by_cases h:T.isExc c=true
 · rw [if_pos h];simp [h];rfl
 · rw [if_neg h];simp [h];exact fun x=>x
theorem Cy{e:ME}{Q Q':Val->Hp->Prop}(h:∀ v H,Q v H=Q' v H):wpE T Φ e Γ H Q E=wpE T Φ e Γ H Q' E:=congrArg (fun q=>wpE T Φ e Γ H q E) (funext fun v=>funext fun H=>h v H)
theorem Aih{m:M α}{Q Q':α->Hp->Prop}(h:∀ v H,Q v H=Q' v H):Wp m H Q E=Wp m H Q' E:=congrArg (fun q=>Wp m H q E) (funext fun v=>funext fun H=>h v H)
theorem Adl{o:Option α}{Q Q':α->Prop}(h:∀ v,Q v=Q' v):Er o Q=Er o Q':=congrArg (Er o) (funext h)
theorem Af5{e:MS}{Q Q':Env'->Hp->Prop}(h:∀ v H,Q v H=Q' v H):wpS T Φ e Γ H Q R ES=wpS T Φ e Γ H Q' R ES:=congrArg (fun q=>wpS T Φ e Γ H q R ES) (funext fun v=>funext fun H=>h v H)
end
mutual
theorem Bc(T:Tab)(Φ:Funs):∀ (e:ME) (Γ:Env') (H:Hp) (Q:Val->Hp->Prop) (E:Nat->Hp->Prop),Wp (Aj T Φ e Γ) H Q E=wpE T Φ e Γ H Q E
 | .none,_,_,_,_=>rfl
 | .bool _,_,_,_,_=>rfl
 | .int _,_,_,_,_=>rfl
 | .str _,_,_,_,_=>rfl
 | .glob k,_,H,Q,E=>Aax _
 | .var i,Γ,H,Q,E=>(Aax _).trans (Eh Γ i fun v=>Q v H).symm
 | .bin op a b,Γ,H,Q,E=>(A0 _ _).trans ((Bc T Φ a Γ H _ E).trans ((Cy fun x H=>(A0 _ _).trans ((Bc T Φ b Γ H _ E).trans (Cy fun y H=>Zg op x y))).trans (Bv op a b).symm))
 | .neg _,_,_,_,_=>rfl
 | .not a,Γ,H,Q,E=>(A0 _ _).trans ((Bc T Φ a Γ H _ E).trans ((Cy fun x H=>(A0 _ _).trans (Hv x)).trans (Dk a).symm))
 | .and a b,Γ,H,Q,E=>(A0 _ _).trans ((Bc T Φ a Γ H _ E).trans ((Cy fun x H=>(A0 _ _).trans ((Hv x).trans (Kc _ _ _ _ (Bc T Φ b Γ H Q E) rfl))).trans (F6 a b).symm))
 | .or a b,Γ,H,Q,E=>(A0 _ _).trans ((Bc T Φ a Γ H _ E).trans ((Cy fun x H=>(A0 _ _).trans ((Hv x).trans (Kc _ _ _ _ rfl (Bc T Φ b Γ H Q E)))).trans (Im a b).symm))
 | .cmp op a b,Γ,H,Q,E=>(A0 _ _).trans ((Bc T Φ a Γ H _ E).trans ((Cy fun x H=>(A0 _ _).trans ((Bc T Φ b Γ H _ E).trans (Cy fun y H=>(A0 _ _).trans (G4 _)))).trans (Bf op a b).symm))
 | .cmp2 op1 op2 a b c,Γ,H,Q,E=>(A0 _ _).trans ((Bc T Φ a Γ H _ E).trans ((Cy fun x H=>(A0 _ _).trans ((Bc T Φ b Γ H _ E).trans (Cy fun y H=>(A0 _ _).trans ((G4 _).trans (Adk _ _ _ _ ((A0 _ _).trans ((Bc T Φ c Γ H _ E).trans (Cy fun z H=>(A0 _ _).trans (G4 _)))) rfl))))).trans (Io op1 op2 a b c).symm))
 | .sub a i,Γ,H,Q,E=>(A0 _ _).trans ((Bc T Φ a Γ H _ E).trans ((Cy fun x H=>(A0 _ _).trans (Bc T Φ i Γ H _ E)).trans (A7 a i).symm))
 | .tup es,Γ,H,Q,E=>(A0 _ _).trans ((wpEs_eq T Φ es Γ H _ E).trans rfl)
 | .list es,Γ,H,Q,E=>(A0 _ _).trans ((wpEs_eq T Φ es Γ H _ E).trans rfl)
 | .dict,_,_,_,_=>rfl
 | .attr a n,Γ,H,Q,E=>(A0 _ _).trans (Bc T Φ a Γ H _ E)
 | .call f es,Γ,H,Q,E=>(A0 _ _).trans (wpEs_eq T Φ es Γ H _ E)
 | .new c es,Γ,H,Q,E=>by
  have h:Aj T Φ (.new c es) Γ=(match T.meth c 0 with
   | some _=>(evalEs T Φ es Γ).bnd fun vs=>Ru T Φ c vs
   | none=>M.bad):=rfl
  rw [h]
  show _=Er (T.meth c 0) _
  cases T.meth c 0 with
  | none=>rfl
  | some k=>exact (A0 _ _).trans (wpEs_eq T Φ es Γ H _ E)
 | .umeth a m es,Γ,H,Q,E=>(A0 _ _).trans ((Bc T Φ a Γ H _ E).trans ((Cy fun o H=>(A0 _ _).trans (Aih fun k H=>(A0 _ _).trans (wpEs_eq T Φ es Γ H _ E))).trans (Bx a m es).symm))
 | .bf f es,Γ,H,Q,E=>(A0 _ _).trans (wpEs_eq T Φ es Γ H _ E)
 | .bm a m es,Γ,H,Q,E=>(A0 _ _).trans ((Bc T Φ a Γ H _ E).trans ((Cy fun o H=>(A0 _ _).trans ((G4 _).trans (Adl fun _=>(A0 _ _).trans (wpEs_eq T Φ es Γ H _ E)))).trans (Pt a m es).symm))
 | .isinst a t,Γ,H,Q,E=>(A0 _ _).trans (Bc T Φ a Γ H _ E)
 | .comp _ _ _,_,_,_,_=>rfl
theorem Af6(T:Tab)(Φ:Funs):∀ (e:MEo) (Γ:Env') (H:Hp) (Q:Val->Hp->Prop) (E:Nat->Hp->Prop),Wp (Abp T Φ e Γ) H Q E=wpO T Φ e Γ H Q E
 | .none,_,_,_,_=>rfl
 | .some e,Γ,H,Q,E=>Bc T Φ e Γ H Q E
theorem wpEs_eq(T:Tab)(Φ:Funs):∀ (es:MEs) (Γ:Env') (H:Hp) (Q:List Val->Hp->Prop) (E:Nat->Hp->Prop),Wp (evalEs T Φ es Γ) H Q E=wpEs T Φ es Γ H Q E
 | .nil,_,_,_,_=>rfl
 | .cons e es,Γ,H,Q,E=>(A0 _ _).trans ((Bc T Φ e Γ H _ E).trans ((Cy fun v H=>(A0 _ _).trans (wpEs_eq T Φ es Γ H _ E)).trans (Ah e es).symm))
end
mutual
theorem Aaz(T:Tab)(Φ:Funs):∀ (s:MS) (Γ:Env') (H:Hp) (Q:Env'->Hp->Prop) (R:Val->Hp->Prop) (E:Nat->Env'->Hp->Prop),WpS (Da T Φ s Γ H) Q R E=wpS T Φ s Γ H Q R E
 | .expr e,Γ,H,Q,R,E=>(Cm _ _ _).trans (Bc T Φ e Γ H _ _)
 | .assign i e,Γ,H,Q,R,E=>(Cm _ _ _).trans (Bc T Φ e Γ H _ _)
 | .setattr o n e,Γ,H,Q,R,E=>(Cm _ _ _).trans ((Bc T Φ e Γ H _ _).trans ((Cy fun v H=>(Cm _ _ _).trans ((Bc T Φ o Γ H _ _).trans (Cy fun o H=>Cm _ _ _))).trans (Fa o n e).symm))
 | .setitem o i e,Γ,H,Q,R,E=>(Cm _ _ _).trans ((Bc T Φ e Γ H _ _).trans ((Cy fun v H=>(Cm _ _ _).trans ((Bc T Φ o Γ H _ _).trans (Cy fun o H=>(Cm _ _ _).trans ((Bc T Φ i Γ H _ _).trans (Cy fun i H=>Cm _ _ _))))).trans (Cd o i e).symm))
 | .ret e,Γ,H,Q,R,E=>(Cm _ _ _).trans (Af6 T Φ e Γ H _ _)
 | .ite c t f,Γ,H,Q,R,E=>(Cm _ _ _).trans ((A0 _ _).trans ((Bc T Φ c Γ H _ _).trans ((Cy fun x H=>(Hv x).trans (Kc _ _ _ _ (wpSs_eq T Φ t Γ H Q R E) (wpSs_eq T Φ f Γ H Q R E))).trans (Bm c t f).symm)))
 | .raise c m,Γ,H,Q,R,E=>Af4 T c Γ H Q R E
 | .loop _ _,_,_,_,_,_=>rfl
 | .each _ _ _,_,_,_,_,_=>rfl
 | .eachZip _ _ _ _ _,_,_,_,_,_=>rfl
 | .tryx _ _,_,_,_,_,_=>rfl
theorem wpSs_eq(T:Tab)(Φ:Funs):∀ (ss:MSs) (Γ:Env') (H:Hp) (Q:Env'->Hp->Prop) (R:Val->Hp->Prop) (E:Nat->Env'->Hp->Prop),WpS (execSs T Φ ss Γ H) Q R E=wpSs T Φ ss Γ H Q R E
 | .nil,_,_,_,_,_=>rfl
 | .cons s ss,Γ,H,Q,R,E=>(Rd _ _).trans ((Aaz T Φ s Γ H _ R E).trans ((Af5 fun Γ H=>wpSs_eq T Φ ss Γ H Q R E).trans (Ak s ss).symm))
end
section
variable{α β:Type}{T:Tab}{Φ:Funs}{Γ:Env'}{H:Hp}
variable{Q:Val->Hp->Prop}{E:Nat->Hp->Prop}{QS:Env'->Hp->Prop}{R:Val->Hp->Prop}{ES:Nat->Env'->Hp->Prop}
theorem Rg{e:ME}{Q':Val->Hp->Prop}{E':Nat->Hp->Prop}(h:wpE T Φ e Γ H Q E)(hq:∀ a H',Q a H'->Q' a H')(he:∀ c H',E c H'->E' c H'):wpE T Φ e Γ H Q' E':=by
 rw [<- Bc] at h ⊢;exact h.mono hq he
theorem A5{e:ME}{Q':Val->Hp->Prop}(h:wpE T Φ e Γ H Q NoE)(hq:∀ a H',Q a H'->Q' a H'):wpE T Φ e Γ H Q' E:=Rg h hq fun _ _ f=>f.elim
theorem wpS_mono{s:MS}{Q':Env'->Hp->Prop}{R':Val->Hp->Prop}{E':Nat->Env'->Hp->Prop}(h:wpS T Φ s Γ H QS R ES)(hq:∀ Γ H',QS Γ H'->Q' Γ H')(hr:∀ v H',R v H'->R' v H')(he:∀ c Γ H',ES c Γ H'->E' c Γ H'):wpS T Φ s Γ H Q' R' E':=by
 rw [<- Aaz] at h ⊢;exact h.mono hq hr he
theorem V5{s:MSs}{Q':Env'->Hp->Prop}{R':Val->Hp->Prop}{E':Nat->Env'->Hp->Prop}(h:wpSs T Φ s Γ H QS R ES)(hq:∀ Γ H',QS Γ H'->Q' Γ H')(hr:∀ v H',R v H'->R' v H')(he:∀ c Γ H',ES c Γ H'->E' c Γ H'):wpSs T Φ s Γ H Q' R' E':=by
 rw [<- wpSs_eq] at h ⊢;exact h.mono hq hr he
theorem At{d k:Nat}{g:MFun}{args:List Val}(h:T.funs[k]?=some g)(ha:args.length=g.arity) :
 Wp (Af T (d+1) k args) H Q E=wpSs T (Af T d) g.body (args.map some++List.replicate g.nvars none) H (fun _ H'=>Q .none H') Q (fun c _ H'=>E c H'):=by
 rw [<- wpSs_eq]
 unfold Wp
 rw [Adi h ha]
 cases execSs T (Af T d) g.body (args.map some++List.replicate g.nvars none) H <;> rfl
theorem Adm{body:MSs}{hs:MHs}(h:wpSs T Φ body Γ H QS R (fun c Γ H=>WpS (execH T Φ hs c Γ H) QS R ES)):wpS T Φ (.tryx body hs) Γ H QS R ES:=by
 rw [<- wpSs_eq] at h
 show WpS (match execSs T Φ body Γ H with
  | .exc c Γ' H'=>execH T Φ hs c Γ' H'
  | r=>r) QS R ES
 generalize execSs T Φ body Γ H=r at h
 cases r <;> exact h
theorem D1{i:Nat}{it:ME}{body:MSs}(h:wpE T Φ it Γ H (fun v H=>Er (C0 v H) fun p=>WpS (Fm (chk p.2 p.1) (Rw i) (execSs T Φ body) p.1 Γ H) QS R ES) (fun c H=>ES c Γ H)):wpS T Φ (.each i it body) Γ H QS R ES:=by
 rw [<- Bc] at h
 refine ((Cm _ _ _).trans ?_).mpr h
 simp only [Cm,G4]
theorem Pu{i j:Nat}{a b:ME}{body:MSs}(h:wpE T Φ a Γ H (fun v H=>wpE T Φ b Γ H (fun w H=>Er (Nl v w H) fun p=>p.1.1.length=p.2.1.length /\
 WpS (Fm (fun H'=>chk p.1.2 p.1.1 H' && chk p.2.2 p.2.1 H' && Nm H.length H') (Abq i j) (execSs T Φ body) (Dw p.1.1 p.2.1) Γ (H++[.hid])) QS R ES) (fun c H=>ES c Γ H)) (fun c H=>ES c Γ H)):wpS T Φ (.eachZip i j a b body) Γ H QS R ES:=by
 simp only [<- Bc] at h
 refine (Cm _ _ _).mpr (h.mono (fun v H h=>(Cm _ _ _).mpr (h.mono (fun w H h=>?_) fun _ _ h=>h)) fun _ _ h=>h)
 · rw [Cm,G4]
   cases hp:Nl v w H with
   | none=>rw [hp] at h;exact h
   | some p =>
    rw [hp] at h
    obtain ⟨e,h⟩:=h
    show WpS (if _ then _ else _) _ _ _
    rw [if_pos e];exact h
theorem Oc{chk:Hp->Bool}{bind:Val->Env'->Option Env'}{body:MSs}(I:List Val->Env'->Hp->Prop) :
 ∀ (xs:List Val) (Γ:Env') (H:Hp),I xs Γ H->(∀ Γ H,I [] Γ H->QS Γ H)->(∀ ys Γ H,I ys Γ H->chk H=true) ->
 (∀ x ys Γ H,I (x :: ys) Γ H->∃ Γ',bind x Γ=some Γ'/\wpSs T Φ body Γ' H (I ys) R ES)->WpS (Fm chk bind (execSs T Φ body) xs Γ H) QS R ES
 | [],Γ,H,h,hd,hc,_=>by
  rw [Nk,if_pos (hc _ _ _ h)];exact hd _ _ h
 | x :: xs,Γ,H,h,hd,hc,hs=>by
  rw [Kv,if_pos (hc _ _ _ h)]
  refine ex1 (hs _ _ _ _ h) fun Γ' zz=>Ac zz fun e w=>?_
  rw [e]
  rw [<- wpSs_eq] at w
  rw [Rd]
  exact w.mono (fun Γ H h=>Oc I xs Γ H h hd hc hs) (fun _ _ h=>h) (fun _ _ _ h=>h)
theorem Cn{chk:Hp->Bool}{bind:Val->Env'->Option Env'}{body:MSs}{xs:List Val}(I:Nat->Env'->Hp->Prop)
 (h0:I 0 Γ H) (hd:∀ Γ H,I xs.length Γ H->QS Γ H) (hc:∀ k Γ H,k<=xs.length->I k Γ H->chk H=true)
 (hs:∀ k x Γ H,xs[k]?=some x->I k Γ H->∃ Γ',bind x Γ=some Γ'/\wpSs T Φ body Γ' H (I (k+1)) R ES):WpS (Fm chk bind (execSs T Φ body) xs Γ H) QS R ES:=by
 refine Oc (fun ys Γ H=>∃ k,ys=xs.drop k/\k<=xs.length/\I k Γ H) xs Γ H ⟨0,rfl,Nat.zero_le _,h0⟩ ?_ ?_ ?_
 · intro Γ H zz
   refine ex1 zz fun k zz=>Ap zz fun e l h=>?_
   have:k=xs.length:=by
    have:=congrArg List.length e
    simp at this;exact Aja this l
   subst this;exact hd _ _ h
 · intro ys Γ H zz
   refine ex1 zz fun k zz=>Ap zz fun e l h=>?_
   exact hc k Γ H l h
 · intro x ys Γ H zz
   refine ex1 zz fun k zz=>Ap zz fun e l h=>?_
   have hx:xs[k]?=some x:=by
    have:=congrArg (fun z=>z[0]?) e
    simpa using this.symm
   have lt:=(List.getElem?_eq_some_iff.mp hx).1
   refine ex1 (hs k x Γ H hx h) fun Γ' zz=>Ac zz fun hb w=>?_
   refine ⟨Γ',hb,V5 w ?_ (fun _ _ h=>h) (fun _ _ _ h=>h)⟩
   intro Γ H h
   refine ⟨k+1,?_,lt,h⟩
   have:=congrArg List.tail e
   simpa using this
theorem Rh{chk:Hp->Bool}{step:Val->M (Option Val)}{Q:List Val->Hp->Prop}(I:List Val->List Val->Hp->Prop) :
 ∀ (xs:List Val) (out:List Val) (H:Hp),I xs out H->(∀ ys out H,I ys out H->chk H=true) ->
 (∀ x ys out H,I (x :: ys) out H->Wp (step x) H (fun r H=>I ys (out++r.toList) H) E) ->
 (∀ zs H,I [] (out++zs) H->Q zs H)->Wp (E5 chk step xs) H Q E
 | [],out,H,h,hc,_,hd=>by
  have:E5 chk step [] H=.ok [] H:=by
   exact if_pos (hc _ _ _ h)
  exact Wp.of_eq this (hd [] H (by simpa using h))
 | x :: xs,out,H,h,hc,hs,hd=>by
  have:E5 chk step (x :: xs) H=((step x).bnd fun r=>(E5 chk step xs).bnd fun ys=>.ret (match r with | some y=>y :: ys | none=>ys)) H:=by
   exact if_pos (hc _ _ _ h)
  unfold Wp;rw [this]
  show Wp _ H Q E
  rw [A0]
  refine (hs _ _ _ _ h).mono ?_ (fun _ _ h=>h)
  intro r H h
  rw [A0]
  simp only [Ob]
  refine Rh I xs _ H h hc hs ?_
  intro zs H h
  refine hd _ H ?_
  cases r with
  | none=>simpa using h
  | some y=>simpa using h
theorem Zh{Q:α->Hp->Prop}{m:M α}(h:Wp m H Q NoE):Wp (M.quiet m) H Q E:=by
 unfold Wp at h ⊢
 unfold M.quiet
 cases hm:m H with
 | ok a H'=>rw [hm] at h;exact h
 | exc c H'=>rw [hm] at h;exact h.elim
 | bad=>rw [hm] at h;exact h.elim
theorem Ms{elt it:ME}{cond:MEo}(h:wpE T Φ it Γ H (fun v H=>Er (C0 v H) fun p =>
 Wp (E5 (chk p.2 p.1) (fun x=>(evalC T Φ cond (Γ++[some x])).bnd fun b=>match b with
  | true=>(Aj T Φ elt (Γ++[some x])).bnd fun y=>.ret (some y)
  | false=>.ret none) p.1) H (fun ys H=>ys.length < lid/\Q (.loc H.length) (H++[.list ys])) NoE) E):wpE T Φ (.comp elt it cond) Γ H Q E:=by
 rw [<- Bc] at h ⊢
 refine (A0 _ _).mpr (h.mono ?_ (fun _ _ h=>h))
 intro v H h
 rw [A0,G4]
 cases hp:C0 v H with
 | none=>rw [hp] at h;exact h
 | some p =>
 rw [hp] at h
 show Wp _ _ _ _
 rw [A0]
 refine Zh (Wp.mono h ?_ (fun _ _ h=>h))
 rintro ys H ⟨hl,q⟩
 rw [if_pos hl];exact q
theorem Ri{elt:ME}{Q:Option Val->Hp->Prop}(h:wpE T Φ elt Γ H (fun y H=>Q (some y) H) E) :
 Wp ((evalC T Φ .none Γ).bnd fun b=>match b with
  | true=>(Aj T Φ elt Γ).bnd fun y=>M.ret (some y)
  | false=>.ret none) H Q E:=by
 rw [<- Bc] at h
 exact (A0 _ _).mpr (show Wp _ H Q E from (A0 _ _).mpr h)
theorem wp_step{elt c:ME}{Q:Option Val->Hp->Prop}(h:wpE T Φ c Γ H (fun v H=>Eg v fun b=>brB b (wpE T Φ elt Γ H (fun y H=>Q (some y) H) E) (Q none H)) E) :
 Wp ((evalC T Φ (.some c) Γ).bnd fun b=>match b with
  | true=>(Aj T Φ elt Γ).bnd fun y=>M.ret (some y)
  | false=>.ret none) H Q E:=by
 simp only [<- Bc] at h
 rw [A0]
 refine (A0 _ _).mpr (h.mono ?_ (fun _ _ h=>h))
 intro v H h
 cases v with
 | bool b =>
  cases b with
  | true=>exact (A0 _ _).mpr h
  | false=>exact h
 | _=>exact h
end
section
variable{T:Tab}{Φ:Funs}{Γ:Env'}{H:Hp}
variable{Q:Val->Hp->Prop}{E:Nat->Hp->Prop}
theorem Gv(x y:Int):Mq .add (.int x) (.int y) H Q E=Q (.int (x+y)) H:=rfl
theorem Lp(x y:Int):Mq .sub (.int x) (.int y) H Q E=Q (.int (x - y)) H:=rfl
theorem I7(x y:Int):Mq .mul (.int x) (.int y) H Q E=((small x || small y)=true/\Q (.int (x * y)) H):=rfl
theorem F7(x y:Int):Mq .fdiv (.int x) (.int y) H Q E=(¬(y=0\/1073741824<=y.natAbs)/\Q (.int (Int.fdiv x y)) H):=rfl
theorem F8(x y:Int):Mq .mod (.int x) (.int y) H Q E=(¬(y=0)/\Q (.int (Int.fmod x y)) H):=rfl
theorem Gj(n:Int):Wp (bfV .range [.int n]) H Q E=((-1073741824<=n/\n<=1073741824)/\Q (.rng n) H):=Aay _ _
theorem By(ns:List Int):Wp (bfV .len [.script ns]) H Q E=Q (.int ns.length) H:=by rw [Mp,Ob]
theorem Ey(xs:List Val):Wp (bfV .len [.tup xs]) H Q E=Q (.int xs.length) H:=rfl
theorem Az{l:Nat}{xs:List Val}(h:H[l]?=some (.list xs)):Wp (bfV .len [.loc l]) H Q E=Q (.int xs.length) H:=by
 unfold Wp;rw [S4 h]
theorem Mt(a b:Int):Wp (bfV .min2 [.int a,.int b]) H Q E=Q (.int (if b < a then b else a)) H:=rfl
theorem Mu(a b:Int):Wp (bfV .max2 [.int a,.int b]) H Q E=Q (.int (if b > a then b else a)) H:=rfl
theorem Zi(n:Nat)(i:Int):A6 H n (.int i)=some (.int i):=by cases n <;> rfl
theorem V6(n:Nat):A6 H n .none=some .none:=by cases n <;> rfl
theorem S6(x y:Int)(k:Bool->Prop):Er (D2 .eq (.int x) (.int y) H) k=k (decide (x=y)):=rfl
theorem S7(x y:Int)(k:Bool->Prop):Er (D2 .ne (.int x) (.int y) H) k=k (!decide (x=y)):=rfl
theorem V7(x y:Bool)(k:Bool->Prop):Er (D2 .ne (.bool x) (.bool y) H) k=k (!decide (x=y)):=rfl
theorem Od(x y:Int)(k:Bool->Prop):Er (D2 .lt (.int x) (.int y) H) k=k (decide (x < y)):=rfl
theorem V8(x y:Int)(k:Bool->Prop):Er (D2 .gt (.int x) (.int y) H) k=k (decide (y < x)):=rfl
theorem Oe(x y:Int)(k:Bool->Prop):Er (D2 .le (.int x) (.int y) H) k=k (decide (x<=y)):=rfl
theorem Co(k:Bool->Prop):Er (D2 .is .none .none H) k=k true:=rfl
theorem Ci(i:Int)(k:Bool->Prop):Er (D2 .is (.int i) .none H) k=k false:=rfl
theorem Dc(k:Bool->Prop):Er (D2 .isNot .none .none H) k=k false:=rfl
theorem Dr(i:Int)(k:Bool->Prop):Er (D2 .isNot (.int i) .none H) k=k true:=rfl
theorem Aii(v:Val)(t:Ty)(k:Kd)(h:Qa H v=some k)(ht:∀ c,t≠.cls c):Wp (Ba T v t) H Q E=Q (.bool (Aae t k)) H:=by
 have e:Ba T v t H=.ok (.bool (Aae t k)) H:=by
  unfold Ba;rw [Db]
  cases t with
  | cls c=>exact absurd rfl (ht c)
  | _=>dsimp only;rw [h];rfl
 unfold Wp;rw [e]
theorem Ez(i:Int):Wp (Ba T (.int i) .int) H Q E=Q (.bool true) H:=rfl
theorem D9(i:Int):Wp (Ba T (.int i) .bool) H Q E=Q (.bool false) H:=rfl
theorem Ip(i:Int):Wp (Ba T (.int i) .tuple) H Q E=Q (.bool false) H:=rfl
theorem G5(i:Int):Wp (Ba T (.int i) .list) H Q E=Q (.bool false) H:=rfl
theorem G6(i:Bool):Wp (Ba T (.bool i) .int) H Q E=Q (.bool true) H:=rfl
theorem F9(i:Bool):Wp (Ba T (.bool i) .bool) H Q E=Q (.bool true) H:=rfl
theorem G7(i:Bool):Wp (Ba T (.bool i) .tuple) H Q E=Q (.bool false) H:=rfl
theorem G8:Wp (Ba T .none .tuple) H Q E=Q (.bool false) H:=rfl
theorem G9:Wp (Ba T .none .int) H Q E=Q (.bool false) H:=rfl
theorem Iq(s:Str):Wp (Ba T (.str s) .tuple) H Q E=Q (.bool false) H:=rfl
theorem Ir(s:Str):Wp (Ba T (.str s) .int) H Q E=Q (.bool false) H:=rfl
theorem E0(xs:List Val):Wp (Ba T (.tup xs) .tuple) H Q E=Q (.bool true) H:=rfl
theorem It(xs:List Val):Wp (Ba T (.tup xs) .int) H Q E=Q (.bool false) H:=rfl
theorem V9(l:Nat)(xs:List Val)(h:H[l]?=some (.list xs)):Wp (Ba T (.loc l) .list) H Q E=Q (.bool true) H :=
 Aii _ _ .list (Aho h) (by intro c h;cases h)
theorem Fb(x:Val)(xs:List Val):Wp (Dm (.tup (x :: xs)) (.int 0)) H Q E=Q x H:=rfl
theorem Fc(x y:Val)(xs:List Val):Wp (Dm (.tup (x :: y :: xs)) (.int 1)) H Q E=Q y H:=rfl
theorem Pv(x y z:Val)(xs:List Val):Wp (Dm (.tup (x :: y :: z :: xs)) (.int 2)) H Q E=Q z H:=rfl
theorem Wa(k n:Nat)(h:k < n):C2 (k:Int) n=some k:=by
 unfold C2
 rw [if_pos (by exact P9),if_pos (by exact Aac h)];rfl
theorem Of(k:Int)(n:Nat)(h0:0<=k)(h:k < n):C2 k n=some k.toNat:=by
 unfold C2
 rw [if_pos h0,if_pos h]
theorem Iu{l:Nat}{xs:List Val}(h:H[l]?=some (.list xs)){k:Int}{v:Val}(h0:0<=k)(hk:xs[k.toNat]?=some v)(q:Q v H):Wp (Dm (.loc l) (.int k)) H Q E:=by
 have lt:=(List.getElem?_eq_some_iff.mp hk).1
 refine Wp.of_eq ?_ q
 unfold Dm;rw [Db]
 simp only [h,Of k xs.length h0 (by exact o16 h0 lt),Option.bind_some,hk]
theorem Pw{l:Nat}{xs:List Val}(h:H[l]?=some (.list xs)):Fr .append (.loc l) H=some ():=if_pos (Jy h)
theorem Lq{l:Nat}{xs:List Val}(h:H[l]?=some (.list xs)):Fr .clear (.loc l) H=some ():=if_pos (Jy h)
theorem Zj{l:Nat}{xs:List Val}(h:H[l]?=some (.list xs)):Fr .pop (.loc l) H=some ():=if_pos (Jy h)
theorem Wb{l:Nat}{xs:List Val}{v:Val}(h:H[l]?=some (.list xs))(hl:xs.length < lid)(q:Q .none (H.set l (.list (xs++[v])))):Wp (bmV .append (.loc l) [v]) H Q E:=by
 refine Wp.of_eq ?_ q
 unfold bmV;simp only [h]
 exact if_pos hl
theorem Rj{l:Nat}{xs:List Val}(h:H[l]?=some (.list xs))(q:Q .none (H.set l (.list []))):Wp (bmV .clear (.loc l) []) H Q E:=by
 refine Wp.of_eq ?_ q
 unfold bmV;simp only [h]
theorem Af7{l:Nat}{xs:List Val}{v:Val}(h:H[l]?=some (.list xs))(hv:xs.getLast?=some v)(q:Q v (H.set l (.list xs.dropLast))):Wp (bmV .pop (.loc l) []) H Q E:=by
 refine Wp.of_eq ?_ q
 unfold bmV;simp only [h,hv]
theorem Dd{i:Nat}{e:ME}{l:Nat}{xs:List Val}(hi:Γ[i]?=some (some (.loc l)))(h:H[l]?=some (.list xs))
 (q:wpE T Φ e Γ H (fun v H'=>∃ ys,H'[l]?=some (.list ys)/\ys.length < lid/\Q .none (H'.set l (.list (ys++[v])))) E):wpE T Φ (.bm (.var i) .append (.cons e .nil)) Γ H Q E:=by
 rw [Pt,A2]
 rw [Eh,hi]
 show Er (Fr _ _ _) _
 rw [Pw h]
 refine Rg q ?_ (fun _ _ h=>h)
 intro v H' zz
 refine ex1 zz fun ys zz=>Ap zz fun hy hl q=>?_
 exact Wb hy hl q
end
theorem Ga{n:Nat}(h:n<=16777216):small (n:Int)=true:=by
 unfold small
 rw [decide_eq_true (Int.lt_of_lt_of_le (by decide:-(2 ^ 64) < (0:Int)) (Int.natCast_nonneg n)),decide_eq_true (Int.lt_of_le_of_lt (Int.ofNat_le.mpr h) (by decide:((16777216:Nat):Int) < 2 ^ 64))];rfl
noncomputable def Ext(H H':Hp):Prop:=∃ K,H'=H++K
theorem Ext.refl(H:Hp):Ext H H:=⟨[],by simp⟩
theorem Ext.trans{H H1 H2:Hp}:Ext H H1->Ext H1 H2->Ext H H2
 | ⟨K,e⟩,⟨L,f⟩=>⟨K++L,by rw [f,e,List.append_assoc]⟩
theorem Ext.new{H H':Hp}(h:Ext H H')(o:HObj):Ext H (H'++[o]):=h.trans ⟨[o],rfl⟩
theorem Ext.get{H H':Hp}(h:Ext H H'){l:Nat}{o:HObj}(g:H[l]?=some o):H'[l]?=some o:=by
 obtain ⟨K,rfl⟩:=h
 rw [List.getElem?_append_left (List.getElem?_eq_some_iff.mp g).1];exact g
theorem Ext.len{H H':Hp}(h:Ext H H'):H.length<=H'.length:=by
 obtain ⟨K,rfl⟩:=h;simp
theorem Ext.set{H H':Hp}(h:Ext H H'){l:Nat}(hl:H.length<=l)(o:HObj):Ext H (H'.set l o):=by
 obtain ⟨K,rfl⟩:=h
 exact ⟨K.set (l - H.length) o,by rw [List.set_append_right _ _ hl]⟩
theorem Au(H:Hp)(o:HObj):(H++[o])[H.length]?=some o:=by simp
theorem Ce{H:Hp}{l:Nat}{o:HObj}(g:H[l]?=some o):l < H.length:=(List.getElem?_eq_some_iff.mp g).1
theorem Bz{H:Hp}{l:Nat}{o:HObj}(o':HObj)(g:H[l]?=some o):(H.set l o')[l]?=some o':=by
 rw [List.getElem?_set_self (Ce g)]
theorem Ar{H:Hp}{l m:Nat}{o:HObj}(o':HObj)(hne:l≠m)(g:H[m]?=some o):(H.set l o')[m]?=some o:=by
 rw [List.getElem?_set_ne hne];exact g
theorem Cj{H:Hp}{l:Nat}{xs:List Val}(h:H[l]?=some (.list xs)):chk (some l) xs H=true:=by
 exact Ae2 h
theorem Cf{H:Hp}{l:Nat}{xs:List Val}(h:H[l]?=some (.list xs)):C0 (.loc l) H=some (xs,some l):=Abw h
theorem Kg{H:Hp}{l:Nat}{xs:List Val}(h:H[l]?=some (.list xs)):Hd (.loc l) H=some (xs,l):=Tr h
noncomputable def Mv(n:Int):List Val:=(List.range n.toNat).map (fun (k:Nat)=>.int (k:Int))
theorem Rk{n:Int}{k:Nat}{x:Val}(h:(Mv n)[k]?=some x):x=.int k/\(k:Int) < n:=by
 unfold Mv at h
 rw [List.getElem?_map] at h
 cases e:(List.range n.toNat)[k]? with
 | none=>rw [e] at h;exact nomatch h
 | some j =>
  rw [e] at h
  obtain ⟨lt,g⟩:=List.getElem?_eq_some_iff.mp e
  simp at g lt h
  subst g
  exact ⟨h.symm,by assumption⟩
theorem Rl(n:Int):(Mv n).length=n.toNat:=by simp [Mv]
section
variable{T:Tab}{Φ:Funs}{Γ:Env'}{H:Hp}{QS:Env'->Hp->Prop}{R:Val->Hp->Prop}{ES:Nat->Env'->Hp->Prop}
theorem Dt{s:MS}{ss:MSs}(P:Env'->Hp->Prop)(h:wpS T Φ s Γ H P R ES)(q:∀ Γ H,P Γ H->wpSs T Φ ss Γ H QS R ES):wpSs T Φ (.cons s ss) Γ H QS R ES:=by
 skip;exact wpS_mono h q (fun _ _ h=>h) (fun _ _ _ h=>h)
theorem Ay{i:Nat}{e:ME}{ss:MSs}(P:Val->Hp->Prop)(h:wpE T Φ e Γ H P NoE)(q:∀ v H,P v H->wpSs T Φ ss (Γ.set i (some v)) H QS R ES):wpSs T Φ (.cons (.assign i e) ss) Γ H QS R ES:=by
 skip;exact A5 h q
theorem Dx{e:ME}{ss:MSs}(P:Hp->Prop)(h:wpE T Φ e Γ H (fun _ H=>P H) NoE)(q:∀ H,P H->wpSs T Φ ss Γ H QS R ES):wpSs T Φ (.cons (.expr e) ss) Γ H QS R ES:=by
 skip;exact A5 h (fun _=>q)
theorem Gw{c:ME}{t ss:MSs}(P:Hp->Prop)(h:wpE T Φ c Γ H (fun v H=>v=.bool false/\P H) NoE)(q:∀ H,P H->wpSs T Φ ss Γ H QS R ES):wpSs T Φ (.cons (.ite c t .nil) ss) Γ H QS R ES:=by
 refine A5 h ?_
 rintro v H ⟨rfl,p⟩
 exact q H p
theorem Adn{c:ME}{t f ss:MSs}(P:Hp->Prop)(h:wpE T Φ c Γ H (fun v H=>v=.bool true/\P H) NoE)(q:∀ H,P H->wpSs T Φ t Γ H (fun Γ H=>wpSs T Φ ss Γ H QS R ES) R ES):wpSs T Φ (.cons (.ite c t f) ss) Γ H QS R ES:=by
 refine A5 h ?_
 rintro v H ⟨rfl,p⟩
 exact q H p
theorem E1{i:Nat}{e:ME}{body:MSs}{n:Int}(I:Nat->Env'->Hp->Prop)
 (he:wpE T Φ e Γ H (fun v H'=>v=.int n/\H'=H) NoE) (hn:-1073741824<=n/\n<=1073741824) (h0:I 0 Γ H)
 (hs:∀ (k:Nat) Γ H,(k:Int) < n->I k Γ H->wpSs T Φ body (Γ.set i (some (.int k))) H (I (k+1)) R ES)
 (hd:∀ Γ H,I n.toNat Γ H->QS Γ H):wpS T Φ (.each i (.bf .range (.cons e .nil)) body) Γ H QS R ES:=by
 apply D1
 rw [Eb,Ah]
 refine A5 he ?_
 rintro v H' ⟨rfl,rfl⟩
 rw [Aq,Gj]
 refine ⟨hn,?_⟩
 show WpS (Fm (chk none (Mv n)) _ _ (Mv n) _ _) _ _ _
 refine Cn I h0 ?_ (fun _ _ _ _ _=>rfl) ?_
 · rw [Rl];exact hd
 · intro k x Γ H hx hi
   obtain ⟨hr0,lt⟩:=Rk hx;refine Eq.symm hr0▸?_
   exact ⟨_,rfl,hs k Γ H lt hi⟩
end
section
variable{T:Tab}{Φ:Funs}{Γ:Env'}{H:Hp}{QS:Env'->Hp->Prop}{R:Val->Hp->Prop}{ES:Nat->Env'->Hp->Prop}
theorem Ado{c d i:Nat}{body:MSs}{hs:MHs}(h0:(T.isExc c && T.isExc d && calmSs (Fh T) body)=true)(h1:T.sub c d=true)(h:wpSs T Φ body (Γ.set i (some (.exc c))) H (fun _ _=>False) R NoX):WpS (execH T Φ (.cons d (some i) body hs) c Γ H) QS R ES:=by
 rw [<- wpSs_eq] at h
 show WpS (if (T.isExc c && T.isExc d && calmSs (Fh T) body)=false then .bad else if T.sub c d=true then _ else _) QS R ES
 rw [h0,if_neg (by decide),if_pos h1]
 show WpS (match execSs T Φ body (Γ.set i (some (.exc c))) H with
  | .ret v H'=>.ret v H'
  | _=>.bad) QS R ES
 generalize execSs T Φ body (Γ.set i (some (.exc c))) H=r at h
 cases r <;> exact h
end
end Mine.Internal.Pure
namespace Mine.Internal.Pile
section
variable{α:Type}
structure Ord(lt:α->α->Bool):Prop where
 asym:∀ a b,lt a b=true->lt b a=false
 tr:∀ a b c,lt b a=false->lt c b=false->lt c a=false
variable{lt:α->α->Bool}
noncomputable def par(i:Nat):Nat:=(i - 1) / 2
theorem Af8{i:Nat}(h:0 < i):par i < i:=by unfold par;exact Apm h
noncomputable def swap(h:List α)(i j:Nat)(a b:α):List α:=(h.set i b).set j a
theorem Mw(h:List α)(i j:Nat)(a b:α):(swap h i j a b).length=h.length:=by simp [swap]
theorem Og{h:List α}{i j:Nat}{a b:α}(hi:h[i]?=some a)(hj:h[j]?=some b):(swap h i j a b).Perm h:=by
 obtain ⟨li,hr0⟩:=List.getElem?_eq_some_iff.mp hi;refine hr0▸?_
 obtain ⟨lj,rfl⟩:=List.getElem?_eq_some_iff.mp hj
 exact List.set_set_perm li lj
end
end Mine.Internal.Pile
namespace Mine.Internal
open PySem
noncomputable abbrev zT13 : MSs := .cons (.expr (.bm (.attr (.var 0) 3) .dpop (.cons (.var 1) .nil))) .nil
noncomputable abbrev zT12 : MSs := .cons (.expr (.bm (.var 3) .append (.cons (.comp (.call 11 (.cons (.var 6) (.cons (.var 2) .nil))) (.var 5) .none) .nil))) .nil
noncomputable abbrev zT11 : MSs := .cons (.each 3 (.var 2) (.cons (.ite (.not (.call 4 (.cons (.var 3) .nil))) (.cons (.raise 2 "a height or None is wanted") .nil) .nil) .nil)) .nil
noncomputable abbrev zT10 : MSs := .cons (.ite (.cmp .ne (.bf .len (.cons (.var 1) .nil)) (.bf .len (.cons (.sub (.var 0) (.int 0)) .nil))) (.cons (.raise 1 "all rows are as long") .nil) .nil) .nil
noncomputable abbrev zT9 : MSs := .cons (.ite (.and (.cmp .lt (.var 5) (.bf .len (.cons (.var 1) .nil))) (.cmp .lt (.sub (.var 1) (.var 5)) (.sub (.var 1) (.var 4)))) (.cons (.assign 4 (.var 5)) .nil) .nil) .nil
noncomputable abbrev zT8 : MSs := .cons (.ite (.or (.not (.isinst (.var 1) .list)) (.not (.call 0 (.cons (.bf .len (.cons (.var 1) .nil)) (.cons (.int 1) (.cons (.glob 0) .nil)))))) (.cons (.raise 1 "a row is a list of heights") .nil) .nil) .nil
noncomputable abbrev zT7 : MSs := .cons (.ite (.and (.cmp .le (.sub (.sub (.var 0) (.sub (.var 5) (.int 0))) (.sub (.var 5) (.int 1))) (.var 2)) (.cmp .notin (.var 5) (.var 3))) (.cons (.expr (.bm (.var 3) .append (.cons (.var 5) .nil))) .nil) .nil) .nil
noncomputable abbrev zT6 : MSs := .cons (.assign 3 (.cmp .ne (.var 4) (.var 2))) (.cons (.assign 6 (.sub (.var 1) (.var 2))) (.cons (.setitem (.var 1) (.var 2) (.sub (.var 1) (.var 4))) (.cons (.setitem (.var 1) (.var 4) (.var 6)) (.cons (.assign 2 (.var 4)) .nil))))
noncomputable abbrev zT5 : MSs := .cons (.setitem (.var 1) (.var 4) (.umeth (.var 0) 2 (.cons (.var 4) .nil))) (.cons (.setitem (.var 2) (.var 4) .none) (.cons (.expr (.umeth (.var 3) 6 (.cons (.tup (.cons (.sub (.var 1) (.var 4)) (.cons (.var 4) .nil))) .nil))) .nil))
noncomputable abbrev zT4 : MSs := .cons (.assign 4 (.bin .fdiv (.bin .sub (.var 3) (.int 1)) (.int 2))) (.cons (.assign 5 (.sub (.var 2) (.var 4))) (.cons (.setitem (.var 2) (.var 4) (.sub (.var 2) (.var 3))) (.cons (.setitem (.var 2) (.var 3) (.var 5)) (.cons (.assign 3 (.var 4)) .nil))))
noncomputable abbrev zT3 : MSs := .cons (.assign 9 (.call 7 (.cons (.var 3) (.cons (.sub (.list (.cons (.int 1000000000) (.cons (.var 6) .nil))) (.bin .mod (.var 8) (.int 2))) .nil)))) (.cons (.ite (.not (.call 35 (.cons (.var 9) (.cons (.sub (.var 7) (.bin .mod (.var 8) (.int 2))) .nil)))) (.cons (.ret (.some (.bool false))) .nil) .nil) (.cons (.expr (.bm (.var 9) .append (.cons (.tup (.cons (.int 0) (.cons (.int 0) .nil))) .nil))) .nil))
noncomputable abbrev zT2 : MSs := .cons (.assign 7 (.bin .add (.bin .mul (.var 5) (.bf .len (.cons (.sub (.var 1) (.int 0)) .nil))) (.var 6))) (.cons (.ite (.and (.cmp .isNot (.sub (.sub (.var 1) (.var 5)) (.var 6)) .none) (.cmp .eq (.bin .mod (.bin .add (.var 2) (.bin .mul (.var 7) (.bin .add (.int 1) (.bin .mod (.bin .fdiv (.var 2) (.int 12)) (.int 5))))) (.var 3)) (.int 0))) (.cons (.expr (.bm (.var 4) .append (.cons (.tup (.cons (.var 5) (.cons (.var 6) .nil))) .nil))) .nil) .nil) .nil)
noncomputable abbrev zT1 : MSs := .cons (.assign 6 (.umeth (.var 0) 2 (.cons (.var 4) .nil))) (.cons (.ite (.cmp .isNot (.var 6) .none) (.cons (.assign 7 (.bf .max2 (.cons (.var 6) (.cons (.sub (.var 5) (.int 0)) .nil)))) (.cons (.ite (.or (.cmp .notin (.var 4) (.var 1)) (.cmp .lt (.var 7) (.sub (.var 1) (.var 4)))) (.cons (.setitem (.var 1) (.var 4) (.var 7)) (.cons (.setitem (.var 2) (.var 4) (.sub (.var 5) (.int 1))) (.cons (.expr (.umeth (.var 3) 6 (.cons (.tup (.cons (.var 7) (.cons (.var 4) .nil))) .nil))) .nil))) .nil) .nil)) .nil) .nil)
noncomputable abbrev zT0 : MSs := .cons (.assign 5 (.umeth (.var 3) 8 .nil)) (.cons (.ite (.cmp .eq (.sub (.var 1) (.sub (.var 5) (.int 1))) (.sub (.var 5) (.int 0))) (.cons (.each 4 (.call 2 (.cons (.attr (.var 0) 0) (.cons (.attr (.var 0) 1) (.cons (.sub (.var 5) (.int 1)) .nil)))) zT1) .nil) .nil) .nil)
noncomputable def Wc:MFun:=⟨3,0,(.cons (.ite (.or (.not (.isinst (.var 0) .int)) (.isinst (.var 0) .bool)) (.cons (.ret (.some (.bool false))) .nil) .nil) (.cons (.ret (.some (.cmp2 .le .le (.var 1) (.var 0) (.var 2)))) .nil))⟩
noncomputable def Wd:MFun:=⟨3,0,(.cons (.ite (.or (.not (.isinst (.var 2) .tuple)) (.cmp .ne (.bf .len (.cons (.var 2) .nil)) (.int 2))) (.cons (.ret (.some (.bool false))) .nil) .nil) (.cons (.ret (.some (.and (.call 0 (.cons (.sub (.var 2) (.int 0)) (.cons (.int 0) (.cons (.bin .sub (.var 0) (.int 1)) .nil)))) (.call 0 (.cons (.sub (.var 2) (.int 1)) (.cons (.int 0) (.cons (.bin .sub (.var 1) (.int 1)) .nil))))))) .nil))⟩
noncomputable def Adp:MFun:=⟨3,3,(.cons (.assign 3 (.sub (.var 2) (.int 0))) (.cons (.assign 4 (.sub (.var 2) (.int 1))) (.cons (.assign 5 (.list (.cons (.tup (.cons (.bin .sub (.var 3) (.int 1)) (.cons (.var 4) .nil))) (.cons (.tup (.cons (.var 3) (.cons (.bin .sub (.var 4) (.int 1)) .nil))) (.cons (.tup (.cons (.var 3) (.cons (.bin .add (.var 4) (.int 1)) .nil))) (.cons (.tup (.cons (.bin .add (.var 3) (.int 1)) (.cons (.var 4) .nil))) .nil)))))) (.cons (.ret (.some (.comp (.var 6) (.var 5) (.some (.call 1 (.cons (.var 0) (.cons (.var 1) (.cons (.var 6) .nil)))))))) .nil))))⟩
noncomputable def Af9:MFun:=⟨2,3,(.cons (.assign 2 (.list .nil)) (.cons (.each 3 (.bf .range (.cons (.var 0) .nil)) (.cons (.each 4 (.bf .range (.cons (.var 1) .nil)) (.cons (.expr (.bm (.var 2) .append (.cons (.tup (.cons (.var 3) (.cons (.var 4) .nil))) .nil))) .nil)) .nil)) (.cons (.ret (.some (.var 2))) .nil)))⟩
noncomputable def Adq:MFun:=⟨1,0,(.cons (.ret (.some (.or (.cmp .is (.var 0) .none) (.call 0 (.cons (.var 0) (.cons (.int 0) (.cons (.glob 1) .nil))))))) .nil)⟩
noncomputable def Adr:MFun:=⟨1,1,(.cons (.ite (.or (.not (.isinst (.var 0) .list)) (.not (.call 0 (.cons (.bf .len (.cons (.var 0) .nil)) (.cons (.int 1) (.cons (.glob 0) .nil)))))) (.cons (.raise 1 "a list of rows is wanted") .nil) .nil) (.cons (.each 1 (.var 0) zT8) (.cons (.each 1 (.var 0) zT10) .nil)))⟩
noncomputable def Aga:MFun:=⟨1,7,(.cons (.assign 1 .dict) (.cons (.assign 2 .dict) (.cons (.assign 3 (.new 8 .nil)) (.cons (.each 4 (.umeth (.var 0) 4 .nil) zT5) (.cons (.loop (.cmp .gt (.umeth (.var 3) 10 .nil) (.int 0)) zT0) (.cons (.ret (.some (.tup (.cons (.var 1) (.cons (.var 2) .nil))))) .nil))))))⟩
noncomputable def We:MFun:=⟨2,1,(.cons (.ite (.not (.call 0 (.cons (.var 1) (.cons (.int 0) (.cons (.glob 1) .nil))))) (.cons (.raise 2 "a height is wanted") .nil) .nil) (.cons (.assign 2 (.sub (.call 6 (.cons (.var 0) .nil)) (.int 0))) (.cons (.ret (.some (.comp (.var 3) (.call 3 (.cons (.attr (.var 0) 0) (.cons (.attr (.var 0) 1) .nil))) (.some (.and (.cmp .isin (.var 3) (.var 2)) (.cmp .le (.sub (.var 2) (.var 3)) (.var 1))))))) .nil)))⟩
noncomputable def Ads:MFun:=⟨2,0,(.cons (.ite (.cmp .lt (.var 1) (.bf .len (.cons (.var 0) .nil))) (.cons (.ret (.some (.sub (.var 0) (.var 1)))) .nil) .nil) (.cons (.ret (.some (.int 0))) .nil))⟩
noncomputable def Aij:MFun:=⟨1,0,(.cons (.ret (.some (.and (.isinst (.var 0) .int) (.not (.isinst (.var 0) .bool))))) .nil)⟩
noncomputable def Oh:MFun:=⟨1,0,(.cons (.ite (.cmp .eq (.bin .mod (.bin .fdiv (.var 0) (.int 20)) (.int 8)) (.int 1)) (.cons (.ret (.some (.sub (.list (.cons (.tup (.cons (.int 1) (.cons (.int 30) .nil))) (.cons (.tup (.cons (.int 30) (.cons (.int 1) .nil))) (.cons (.tup (.cons (.int 5) (.cons (.int 5) .nil))) (.cons (.tup (.cons (.int 2) (.cons (.int 12) .nil))) (.cons (.tup (.cons (.int 2) (.cons (.int 30) .nil))) (.cons (.tup (.cons (.int 30) (.cons (.int 2) .nil))) (.cons (.tup (.cons (.int 6) (.cons (.int 7) .nil))) (.cons (.tup (.cons (.int 12) (.cons (.int 11) .nil))) .nil))))))))) (.bin .mod (.bin .fdiv (.var 0) (.int 160)) (.int 8))))) .nil) .nil) (.cons (.ret (.some (.tup (.cons (.bin .add (.int 1) (.bin .mod (.var 0) (.int 4))) (.cons (.bin .add (.int 1) (.bin .mod (.bin .fdiv (.var 0) (.int 4)) (.int 5))) .nil))))) .nil))⟩
noncomputable def Aa0:MFun:=⟨2,0,(.cons (.ite (.cmp .eq (.bin .mod (.var 0) (.int 9)) (.int 8)) (.cons (.ret (.some .none)) .nil) .nil) (.cons (.ite (.cmp .eq (.var 1) (.int 0)) (.cons (.ret (.some (.bin .mod (.bin .fdiv (.var 0) (.int 9)) (.int 3)))) .nil) .nil) (.cons (.ite (.cmp .eq (.var 1) (.int 1)) (.cons (.ret (.some (.bin .mod (.bin .fdiv (.var 0) (.int 9)) (.int 12)))) .nil) .nil) (.cons (.ite (.cmp .eq (.var 1) (.int 2)) (.cons (.ret (.some (.bin .mod (.bin .fdiv (.var 0) (.int 9)) (.int 1000000001)))) .nil) .nil) (.cons (.ret (.some (.bin .sub (.int 1000000000) (.bin .mod (.bin .fdiv (.var 0) (.int 9)) (.int 2))))) .nil)))))⟩
noncomputable def Oi:MFun:=⟨2,0,(.cons (.ite (.cmp .lt (.bin .add (.var 1) (.int 3)) (.bf .len (.cons (.var 0) .nil))) (.cons (.ret (.some (.sub (.var 0) (.bin .add (.var 1) (.int 3))))) .nil) .nil) (.cons (.ret (.some (.bin .add (.bin .add (.bin .mul (.int 7) (.call 8 (.cons (.var 0) (.cons (.int 1) .nil)))) (.bin .mul (.bin .mul (.call 8 (.cons (.var 0) (.cons (.int 2) .nil))) (.var 1)) (.var 1))) (.bin .mul (.int 13) (.var 1))))) .nil))⟩
noncomputable def Aa1:MFun:=⟨1,5,(.cons (.assign 1 (.call 10 (.cons (.call 8 (.cons (.var 0) (.cons (.int 0) .nil))) .nil))) (.cons (.assign 2 (.bin .mod (.call 8 (.cons (.var 0) (.cons (.int 1) .nil))) (.int 4))) (.cons (.assign 3 (.list .nil)) (.cons (.each 4 (.bf .range (.cons (.sub (.var 1) (.int 0)) .nil)) (.cons (.assign 5 (.comp (.call 12 (.cons (.var 0) (.cons (.bin .add (.bin .mul (.var 4) (.sub (.var 1) (.int 1))) (.var 6)) .nil))) (.bf .range (.cons (.sub (.var 1) (.int 1)) .nil)) .none)) zT12)) (.cons (.ret (.some (.var 3))) .nil)))))⟩
noncomputable def Aa2:MFun:=⟨2,6,(.cons (.assign 2 (.call 8 (.cons (.var 0) (.cons (.int 2) .nil)))) (.cons (.assign 3 (.sub (.list (.cons (.int 2) (.cons (.int 3) (.cons (.int 5) (.cons (.int 9) (.cons (.int 14) .nil)))))) (.bin .mod (.bin .fdiv (.var 2) (.int 60)) (.int 5)))) (.cons (.assign 4 (.list .nil)) (.cons (.each 5 (.bf .range (.cons (.bf .len (.cons (.var 1) .nil)) .nil)) (.cons (.each 6 (.bf .range (.cons (.bf .len (.cons (.sub (.var 1) (.int 0)) .nil)) .nil)) zT2) .nil)) (.cons (.ret (.some (.var 4))) .nil)))))⟩
noncomputable def Aa3:MFun:=⟨2,3,(.cons (.assign 2 (.comp (.bf .list (.cons (.var 5) .nil)) (.var 0) .none)) (.cons (.setitem (.sub (.var 2) (.int 0)) (.int 0) (.int 7)) (.cons (.assign 3 (.new 7 (.cons (.var 2) .nil))) (.cons (.expr (.umeth (.var 3) 3 (.cons (.tup (.cons (.int 0) (.cons (.int 0) .nil))) .nil))) (.cons (.expr (.call 17 (.cons (.var 3) .nil))) (.cons (.expr (.umeth (.var 3) 12 (.cons (.tup (.cons (.int 0) (.cons (.int 0) .nil))) .nil))) (.cons (.expr (.call 17 (.cons (.var 3) .nil))) (.cons (.expr (.umeth (.var 3) 11 (.cons (.tup (.cons (.int 0) (.cons (.int 0) .nil))) (.cons (.sub (.sub (.var 0) (.int 0)) (.int 0)) .nil)))) (.cons (.expr (.call 17 (.cons (.var 3) .nil))) (.cons (.each 4 (.var 1) (.cons (.expr (.umeth (.var 3) 3 (.cons (.var 4) .nil))) .nil)) (.cons (.ret (.some (.var 3))) .nil)))))))))))⟩
noncomputable def Aa4:MFun:=⟨2,1,(.cons (.assign 2 (.list .nil)) (.cons (.ite (.cmp .gt (.sub (.var 1) (.int 0)) (.int 0)) (.cons (.expr (.bm (.var 2) .append (.cons (.tup (.cons (.bin .sub (.sub (.var 1) (.int 0)) (.int 1)) (.cons (.sub (.var 1) (.int 1)) .nil))) .nil))) .nil) .nil) (.cons (.ite (.cmp .gt (.sub (.var 1) (.int 1)) (.int 0)) (.cons (.expr (.bm (.var 2) .append (.cons (.tup (.cons (.sub (.var 1) (.int 0)) (.cons (.bin .sub (.sub (.var 1) (.int 1)) (.int 1)) .nil))) .nil))) .nil) .nil) (.cons (.ite (.cmp .lt (.bin .add (.sub (.var 1) (.int 1)) (.int 1)) (.bf .len (.cons (.sub (.var 0) (.int 0)) .nil))) (.cons (.expr (.bm (.var 2) .append (.cons (.tup (.cons (.sub (.var 1) (.int 0)) (.cons (.bin .add (.sub (.var 1) (.int 1)) (.int 1)) .nil))) .nil))) .nil) .nil) (.cons (.ite (.cmp .lt (.bin .add (.sub (.var 1) (.int 0)) (.int 1)) (.bf .len (.cons (.var 0) .nil))) (.cons (.expr (.bm (.var 2) .append (.cons (.tup (.cons (.bin .add (.sub (.var 1) (.int 0)) (.int 1)) (.cons (.sub (.var 1) (.int 1)) .nil))) .nil))) .nil) .nil) (.cons (.ret (.some (.comp (.var 3) (.var 2) (.some (.cmp .isNot (.sub (.sub (.var 0) (.sub (.var 3) (.int 0))) (.sub (.var 3) (.int 1))) .none))))) .nil))))))⟩
noncomputable def Aa5:MFun:=⟨1,1,(.cons (.each 1 (.tup (.cons (.int 0) (.cons (.int 7) (.cons (.int 1000000000) .nil)))) (.cons (.expr (.bm (.call 7 (.cons (.var 0) (.cons (.var 1) .nil))) .clear .nil)) .nil)) (.cons (.expr (.bm (.umeth (.var 0) 4 .nil) .clear .nil)) .nil))⟩
noncomputable def Aa6:MFun:=⟨3,0,(.cons (.expr (.umeth (.var 0) 1 (.cons (.var 1) .nil))) (.cons (.ite (.not (.call 4 (.cons (.var 2) .nil))) (.cons (.raise 2 "a height or None is wanted") .nil) .nil) (.cons (.setitem (.sub (.attr (.var 0) 2) (.sub (.var 1) (.int 0))) (.sub (.var 1) (.int 1)) (.var 2)) (.cons (.ite (.and (.cmp .is (.var 2) .none) (.cmp .isin (.var 1) (.attr (.var 0) 3))) zT13 .nil) .nil))))⟩
noncomputable def Agb:MFun:=⟨1,1,(.cons (.assign 1 (.str "")) (.cons (.ite (.isinst (.var 0) (.cls 1)) (.cons (.assign 1 (.bin .add (.var 1) (.str "land "))) .nil) .nil) (.cons (.ite (.isinst (.var 0) (.cls 2)) (.cons (.assign 1 (.bin .add (.var 1) (.str "height "))) .nil) .nil) (.cons (.ite (.isinst (.var 0) (.cls 3)) (.cons (.assign 1 (.bin .add (.var 1) (.str "cell "))) .nil) .nil) (.cons (.ite (.isinst (.var 0) (.cls 4)) (.cons (.assign 1 (.bin .add (.var 1) (.str "drain "))) .nil) .nil) (.cons (.ite (.isinst (.var 0) (.cls 5)) (.cons (.assign 1 (.bin .add (.var 1) (.str "way "))) .nil) .nil) (.cons (.ite (.isinst (.var 0) (.cls 6)) (.cons (.assign 1 (.bin .add (.var 1) (.str "rain "))) .nil) .nil) (.cons (.ite (.isinst (.var 0) (.cls 9)) (.cons (.ret (.some (.bm (.var 1) .rstrip .nil))) .nil) .nil) (.cons (.ret (.some (.str "another base"))) .nil)))))))))⟩
noncomputable def Wf:MFun:=⟨2,1,(.cons (.tryx (.cons (.expr (.call 7 (.cons (.var 0) (.cons (.var 1) .nil)))) .nil) (.cons 0 (some 2) (.cons (.ret (.some (.cmp .eq (.call 19 (.cons (.var 2) .nil)) (.str "height")))) .nil) .nil)) (.cons (.ret (.some (.bool false))) .nil))⟩
noncomputable def Aa7:MFun:=⟨3,3,(.cons (.assign 3 (.comp (.var 6) (.var 1) (.some (.cmp .le (.sub (.sub (.var 0) (.sub (.var 6) (.int 0))) (.sub (.var 6) (.int 1))) (.var 2))))) (.cons (.each 4 (.bf .list (.cons (.bf .range (.cons (.bin .mul (.bf .len (.cons (.var 0) .nil)) (.bf .len (.cons (.sub (.var 0) (.int 0)) .nil))) .nil)) .nil)) (.cons (.ite (.cmp .lt (.var 4) (.bf .len (.cons (.var 3) .nil))) (.cons (.each 5 (.call 16 (.cons (.var 0) (.cons (.sub (.var 3) (.var 4)) .nil))) zT7) .nil) .nil) .nil)) (.cons (.ret (.some (.bf .sorted (.cons (.var 3) .nil)))) .nil)))⟩
noncomputable def Aa8:MFun:=⟨1,10,(.cons (.assign 1 (.call 13 (.cons (.var 0) .nil))) (.cons (.assign 2 (.call 14 (.cons (.var 0) (.cons (.var 1) .nil)))) (.cons (.assign 3 (.call 15 (.cons (.var 1) (.cons (.var 2) .nil)))) (.cons (.assign 4 (.call 8 (.cons (.var 0) (.cons (.bf .max2 (.cons (.int 0) (.cons (.bin .sub (.bf .len (.cons (.var 0) .nil)) (.int 1)) .nil))) .nil)))) (.cons (.assign 5 (.sub (.sub (.var 1) (.bin .mod (.bin .fdiv (.var 4) (.int 5)) (.bf .len (.cons (.var 1) .nil)))) (.bin .mod (.bin .fdiv (.var 4) (.int 150)) (.bf .len (.cons (.sub (.var 1) (.int 0)) .nil))))) (.cons (.ite (.cmp .is (.var 5) .none) (.cons (.assign 5 (.int 3)) .nil) .nil) (.cons (.assign 6 (.sub (.list (.cons (.var 5) (.cons (.bf .min2 (.cons (.bin .add (.var 5) (.int 1)) (.cons (.int 1000000000) .nil))) (.cons (.bf .max2 (.cons (.bin .sub (.var 5) (.int 1)) (.cons (.int 0) .nil))) (.cons (.int 0) (.cons (.int 1000000000) .nil)))))) (.bin .mod (.var 4) (.int 5)))) (.cons (.assign 7 (.list (.cons (.call 21 (.cons (.var 1) (.cons (.var 2) (.cons (.int 1000000000) .nil)))) (.cons (.call 21 (.cons (.var 1) (.cons (.var 2) (.cons (.var 6) .nil)))) .nil)))) (.cons (.each 8 (.bf .range (.cons (.int 4) .nil)) zT3) (.cons (.assign 10 (.sub (.list (.cons .none (.cons (.neg (.int 1)) (.cons (.int 1000000001) (.cons (.bool true) (.cons (.str "0") .nil)))))) (.bin .mod (.bin .fdiv (.var 4) (.int 5)) (.int 5)))) (.cons (.ite (.not (.call 20 (.cons (.var 3) (.cons (.var 10) .nil)))) (.cons (.ret (.some (.bool false))) .nil) .nil) (.cons (.ret (.some (.and (.cmp .eq (.umeth (.var 3) 5 .nil) (.var 1)) (.cmp .eq (.umeth (.var 3) 4 .nil) (.var 2))))) .nil))))))))))))⟩
noncomputable def Aa9:MFun:=⟨2,2,(.cons (.expr (.call 5 (.cons (.var 1) .nil))) (.cons (.each 2 (.var 1) zT11) (.cons (.setattr (.var 0) 0 (.bf .len (.cons (.var 1) .nil))) (.cons (.setattr (.var 0) 1 (.bf .len (.cons (.sub (.var 1) (.int 0)) .nil))) (.cons (.setattr (.var 0) 2 (.comp (.bf .list (.cons (.var 4) .nil)) (.var 1) .none)) (.cons (.setattr (.var 0) 3 .dict) .nil))))))⟩
noncomputable def Wg:MFun:=⟨2,0,(.cons (.ite (.not (.call 1 (.cons (.attr (.var 0) 0) (.cons (.attr (.var 0) 1) (.cons (.var 1) .nil))))) (.cons (.raise 3 "no such cell") .nil) .nil) .nil)⟩
noncomputable def Wh:MFun:=⟨2,0,(.cons (.expr (.umeth (.var 0) 1 (.cons (.var 1) .nil))) (.cons (.ret (.some (.sub (.sub (.attr (.var 0) 2) (.sub (.var 1) (.int 0))) (.sub (.var 1) (.int 1))))) .nil))⟩
noncomputable def Wi:MFun:=⟨2,0,(.cons (.expr (.umeth (.var 0) 1 (.cons (.var 1) .nil))) (.cons (.ite (.cmp .is (.sub (.sub (.attr (.var 0) 2) (.sub (.var 1) (.int 0))) (.sub (.var 1) (.int 1))) .none) (.cons (.raise 4 "stone is no drain") .nil) .nil) (.cons (.setitem (.attr (.var 0) 3) (.var 1) (.bool true)) .nil)))⟩
noncomputable def Wj:MFun:=⟨1,0,(.cons (.ret (.some (.comp (.var 1) (.call 3 (.cons (.attr (.var 0) 0) (.cons (.attr (.var 0) 1) .nil))) (.some (.cmp .isin (.var 1) (.attr (.var 0) 3)))))) .nil)⟩
noncomputable def Wk:MFun:=⟨1,0,(.cons (.ret (.some (.comp (.bf .list (.cons (.var 1) .nil)) (.attr (.var 0) 2) .none))) .nil)⟩
noncomputable def Wl:MFun:=⟨1,0,(.cons (.setattr (.var 0) 4 (.list .nil)) .nil)⟩
noncomputable def Aba:MFun:=⟨2,4,(.cons (.assign 2 (.attr (.var 0) 4)) (.cons (.expr (.bm (.var 2) .append (.cons (.var 1) .nil))) (.cons (.assign 3 (.bin .sub (.bf .len (.cons (.var 2) .nil)) (.int 1))) (.cons (.loop (.and (.cmp .gt (.var 3) (.int 0)) (.cmp .lt (.sub (.var 2) (.var 3)) (.sub (.var 2) (.bin .fdiv (.bin .sub (.var 3) (.int 1)) (.int 2))))) zT4) .nil))))⟩
noncomputable def Agc:MFun:=⟨1,0,(.cons (.ite (.cmp .eq (.bf .len (.cons (.attr (.var 0) 4) .nil)) (.int 0)) (.cons (.ret (.some .none)) .nil) .nil) (.cons (.ret (.some (.sub (.attr (.var 0) 4) (.int 0)))) .nil))⟩
noncomputable def Abb:MFun:=⟨1,3,(.cons (.assign 1 (.attr (.var 0) 4)) (.cons (.ite (.cmp .eq (.bf .len (.cons (.var 1) .nil)) (.int 0)) (.cons (.ret (.some .none)) .nil) .nil) (.cons (.assign 2 (.sub (.var 1) (.int 0))) (.cons (.assign 3 (.bm (.var 1) .pop .nil)) (.cons (.ite (.cmp .gt (.bf .len (.cons (.var 1) .nil)) (.int 0)) (.cons (.setitem (.var 1) (.int 0) (.var 3)) (.cons (.expr (.umeth (.var 0) 9 .nil)) .nil)) .nil) (.cons (.ret (.some (.var 2))) .nil))))))⟩
noncomputable def Abc:MFun:=⟨1,6,(.cons (.assign 1 (.attr (.var 0) 4)) (.cons (.assign 2 (.int 0)) (.cons (.assign 3 (.bool true)) (.cons (.loop (.var 3) (.cons (.assign 4 (.var 2)) (.cons (.each 5 (.list (.cons (.bin .add (.bin .mul (.int 2) (.var 2)) (.int 1)) (.cons (.bin .add (.bin .mul (.int 2) (.var 2)) (.int 2)) .nil))) zT9) zT6))) .nil))))⟩
noncomputable def Wm:MFun:=⟨1,0,(.cons (.ret (.some (.bf .len (.cons (.attr (.var 0) 4) .nil)))) .nil)⟩
noncomputable def Abd:MFun:=⟨2,2,(.cons (.ite (.or (.not (.isinst (.var 0) .list)) (.cmp .ne (.bf .len (.cons (.var 0) .nil)) (.bf .len (.cons (.var 1) .nil)))) (.cons (.ret (.some (.bool false))) .nil) .nil) (.cons (.eachZip 2 3 (.var 0) (.var 1) (.cons (.ite (.or (.not (.isinst (.var 2) .tuple)) (.or (.cmp .ne (.bf .len (.cons (.var 2) .nil)) (.int 2)) (.or (.not (.call 9 (.cons (.sub (.var 2) (.int 0)) .nil))) (.not (.call 9 (.cons (.sub (.var 2) (.int 1)) .nil)))))) (.cons (.ret (.some (.bool false))) .nil) .nil) (.cons (.ite (.or (.cmp .ne (.sub (.var 2) (.int 0)) (.sub (.var 3) (.int 0))) (.cmp .ne (.sub (.var 2) (.int 1)) (.sub (.var 3) (.int 1)))) (.cons (.ret (.some (.bool false))) .nil) .nil) .nil))) (.cons (.ret (.some (.bool true))) .nil)))⟩
noncomputable def Abe:MFun:=⟨2,0,(.cons (.expr (.umeth (.var 0) 1 (.cons (.var 1) .nil))) (.cons (.ite (.cmp .notin (.var 1) (.attr (.var 0) 3)) (.cons (.raise 4 "no drain") .nil) .nil) zT13))⟩
noncomputable def T_06:Tab:=⟨[Wc,Wd,Adp,Af9,Adq,Adr,Aga,We,Ads,Aij,Oh,Aa0,Oi,Aa1,Aa2,Aa3,Aa4,Aa5,Aa6,Agb,Wf,Aa7,Aa8,Aa9,Wg,Wh,Wi,Wj,Wk,Wl,Aba,Agc,Abb,Abc,Wm,Abd,Abe],[[],[],[],[],[],[],[],[(11,18),(0,23),(1,24),(2,25),(3,26),(4,27),(5,28),(12,36)],[(0,29),(6,30),(7,31),(8,32),(9,33),(10,34)],[]],[[0,9],[1,0,9],[2,0,9],[3,0,9],[4,0,9],[5,0,9],[6,0,9],[7],[8],[9]],[.int 30,.int 1000000000]⟩
noncomputable def N_06:Names:=⟨[("whole",0),("lies_in",1),("beside",2),("all_cells",3),("is_height",4),("look_at_rows",5),("flood",6),("reached",7),("_law_cell_at",8),("_law_whole",9),("_law_size",10),("_law_height_by",11),("_law_number",12),("_law_grid",13),("_law_drains",14),("_law_land",15),("_law_beside",16),("_law_asked",17),("_law_word_of",19),("_law_is_refused",20),("_law_due",21),("law",22),("_law_same_cells",35)],[("LandError",0),("NoLand",1),("NoHeight",2),("NoCell",3),("NoDrain",4),("NoWay",5),("NoRain",6),("Land",7),("Pile",8),("ValueError",9)],[("MOST_SIDE",0),("MOST_HEIGHT",1)],[("rows",0),("columns",1),("grid",2),("sinks",3),("heap",4)],[("__init__",0),("look_at",1),("height",2),("opened",3),("drains",4),("heights",5),("put",6),("least",7),("take",8),("sink",9),("many",10),("raised",11),("shut",12)]⟩
noncomputable def V_06:List (List Str):=([["thing","low","high"],["rows","columns","cell"],["rows","columns","cell","row","column","near"],["rows","columns","found","row","column"],["thing"],["heights","row"],["land","found","goals","pile","cell","here","high","level"],["land","height","found"],["_law_script","_law_k"],["_law_found"],["_law_cell"],["_law_number_here","_law_kind"],["_law_script","_law_k"],["_law_script","_law_size_here","_law_kind","_law_rows","_law_row","_law_numbers"],["_law_script","_law_rows","_law_cell","_law_every","_law_found","_law_row","_law_column","_law_at"],["_law_rows","_law_drains_here","_law_first","_law_land_here","_law_cell"],["_law_rows","_law_cell","_law_found"],["_law_land_here","_law_height"],["self","cell","height"],["_law_error","_law_word"],["_law_land_here","_law_height","_law_error"],["_law_rows","_law_drains_here","_law_most","_law_found","_law_cell","_law_one"],["_law_script","_law_rows","_law_drains_here","_law_land_here","_law_last","_law_own","_law_height","_law_due_here","_law_turn","_law_found","_law_odd"],["self","heights","row","one"],["self","cell"],["self","cell"],["self","cell"],["self"],["self"],["self"]]:List (List Str)).append ([["self","value","heap","at","above","kept"],["self"],["self","heap","found","last"],["self","heap","at","going","small","below","kept"],["self"],["_law_found","_law_due_here","_law_one","_law_cell"],["self","cell"]]:List (List Str))
end Mine.Internal
namespace Mine.Internal.Pure
open PySem Pile
noncomputable def S8:List Int->List Int->Bool
 | [],[]=>false
 | [],_ :: _=>true
 | _ :: _,[]=>false
 | x :: xs,y :: ys=>if x < y then true else if y < x then false else S8 xs ys
theorem D3{x y:Int}{xs ys:List Int}:S8 (x :: xs) (y :: ys)=if x < y then true else if y < x then false else S8 xs ys:=rfl
noncomputable def Akg:Nat->Val->List Int
 | 0,_=>[]
 | n+1,v=>(match v with
  | .int i=>[i]
  | .tup vs=>vs.flatMap (Akg n)
  | _=>[])
noncomputable def key(v:Val):List Int:=Akg 3 v
noncomputable def klt(a b:Val):Bool:=S8 (key a) (key b)
theorem Rm(x y:Int):Hb [] (.int x) (.int y)=some (x == y):=rfl
theorem Adt(a b c e:Int):Hb [] (.tup [.int a,.int b]) (.tup [.int c,.int e])=some (a == c && (b == e && true)):=rfl
theorem lt_int(n:Nat)(x y:Int):Jr (n+1) (.int x) (.int y)=some (decide (x < y)):=rfl
theorem Gb(e f:Val->Val->Option Bool)(x y:Val)(xs ys:List Val):lts e f (x :: xs) (y :: ys)=(match e x y with | some true=>lts e f xs ys | some false=>f x y | none=>none):=rfl
theorem Wn(n:Nat)(xs ys:List Val):Jr (n+1) (.tup xs) (.tup ys)=lts (Hb []) (Jr n) xs ys:=rfl
structure Dom(D:Val->Prop):Prop where
 eq:∀ (H:Hp) a b,D a->D b->Hb H a b=some (decide (key a=key b))
 lt:∀ a b,D a->D b->Jr Fi a b=some (klt a b)
 anti:∀ a b,D a->D b->key a=key b->a=b
noncomputable def DC(v:Val):Prop:=∃ a b c,v=.tup [.int a,.tup [.int b,.int c]]
theorem Abf(a b c:Int):key (.tup [.int a,.tup [.int b,.int c]])=[a,b,c]:=rfl
theorem Adu{a b:Val}(ha:DC a)(hb:DC b)(h:key a=key b):a=b:=by
 refine ex3 ha fun x1 x2 x3 zr3=>?_;subst zr3
 refine ex3 hb fun y1 y2 y3 zr3=>?_;subst zr3
 cases (show [x1,x2,x3]=[y1,y2,y3] from h);rfl
theorem Aik{a b:Val}(ha:DC a)(hb:DC b):Jr Fi a b=some (klt a b):=by
 refine ex3 ha fun x1 x2 x3 zr3=>?_;subst zr3
 refine ex3 hb fun y1 y2 y3 zr3=>?_;subst zr3
 show Jr (5+1) _ _=_
 rw [Wn,Gb,Rm]
 show _=some (S8 [x1,x2,x3] [y1,y2,y3])
 by_cases q1:x1=y1
 · subst q1
   simp only [beq_self_eq_true]
   rw [Gb,Adt]
   by_cases q2:x2=y2
   · subst q2
     by_cases q3:x3=y3
     · subst q3
       simp only [beq_self_eq_true,Bool.and_self]
       simp [lts,S8]
     · have e3:(x3 == y3)=false:=by simpa using q3
       simp only [beq_self_eq_true,e3,Bool.false_and,Bool.and_false]
       show Jr (4+1) _ _=_
       rw [Wn,Gb,Rm]
       simp only [beq_self_eq_true]
       rw [Gb,Rm,e3]
       show some (decide (x3 < y3))=_
       by_cases q5:x3 < y3
       · simp [D3,q5]
       · have:y3 < x3:=by exact Ahe q5 q3
         simp [D3,q5,this]
   · have e2:(x2 == y2)=false:=by simpa using q2
     simp only [e2,Bool.false_and]
     show Jr (4+1) _ _=_
     rw [Wn,Gb,Rm,e2]
     show some (decide (x2 < y2))=_
     by_cases q5:x2 < y2
     · simp [D3,q5]
     · have:y2 < x2:=by exact Ahe q5 q2
       simp [D3,q5,this]
 · have e1:(x1 == y1)=false:=by simpa using q1
   rw [e1]
   show some (decide (x1 < y1))=_
   by_cases q5:x1 < y1
   · simp [D3,q5]
   · have:y1 < x1:=by exact Ahe q5 q1
     simp [D3,q5,this]
theorem Ail{H:Hp}{a b:Val}(ha:DC a)(hb:DC b):Hb H a b=some (decide (key a=key b)):=by
 refine ex3 ha fun x1 x2 x3 zr3=>?_;subst zr3
 refine ex3 hb fun y1 y2 y3 zr3=>?_;subst zr3
 have:Hb H (.tup [.int x1,.tup [.int x2,.int x3]]) (.tup [.int y1,.tup [.int y2,.int y3]])=some (x1 == y1 && ((x2 == y2 && (x3 == y3 && true)) && true)):=rfl
 rw [this]
 congr 1
 rw [Bool.eq_iff_iff,Abf,Abf];simp [and_assoc]
theorem Mx:Dom DC:=⟨fun _ _ _=>Ail,fun _ _=>Aik,fun _ _=>Adu⟩
section
variable{T:Tab}{Φ:Funs}{Γ:Env'}{H:Hp}{Q:Val->Hp->Prop}{E:Nat->Hp->Prop}{QS:Env'->Hp->Prop}{R:Val->Hp->Prop}{ES:Nat->Env'->Hp->Prop}
theorem Kh{i c n:Nat}{fs:List (Nat × Val)}{v:Val}(h:H[i]?=some (.inst c fs))(hf:fs.lookup n=some v):Wp (Ja (.loc i) n) H Q E=Q v H:=by
 have:Ja (.loc i) n H=.ok v H:=by
  unfold Ja;rw [Db];simp only [h,hf]
 unfold Wp;rw [this]
theorem E2{l:Nat}{xs:List Val}{k:Int}{v:Val}{Q:Unit->Hp->Prop}(h:H[l]?=some (.list xs))(h0:0<=k)(h1:k < xs.length):Wp (A4 (.loc l) (.int k) v) H Q E=Q () (H.set l (.list (xs.set k.toNat v))):=by
 have:A4 (.loc l) (.int k) v H=.ok () (H.set l (.list (xs.set k.toNat v))):=by
  unfold A4;simp only [h];exact if_pos ⟨h0,h1⟩
 unfold Wp;rw [this]
theorem My{l:Nat}{xs:List Val}(h:H[l]?=some (.list xs)){k:Int}{v:Val}(h0:0<=k)(hk:xs[k.toNat]?=some v):Wp (Dm (.loc l) (.int k)) H Q E=Q v H:=by
 have lt:=(List.getElem?_eq_some_iff.mp hk).1
 have:Dm (.loc l) (.int k) H=.ok v H:=by
  unfold Dm;rw [Db]
  simp only [h,Of k xs.length h0 (by exact o16 h0 lt),Option.bind_some,hk]
 unfold Wp;rw [this]
theorem Mz{c:ME}{body:MSs}(I:Nat->Env'->Hp->Prop){n:Nat}(hn:n < Rv)(h:I n Γ H)
 (step:∀ n Γ H,I n Γ H->wpE T Φ c Γ H (fun v H'=>Eg v fun b=>brB b (wpSs T Φ body Γ H' (fun Γ' H''=>∃ m,m < n/\I m Γ' H'') R NoX) (QS Γ H')) NoE):wpS T Φ (.loop c body) Γ H QS R ES:=by
 have main:∀ (f n:Nat) (Γ:Env') (H:Hp),n < f->I n Γ H->WpS (I2 (fun Γ=>(Aj T Φ c Γ).bnd C3) (execSs T Φ body) f Γ H) QS R ES:=by
  intro f
  induction f with
  | zero=>intro n Γ H l;exact (Apn l).elim
  | succ f ih =>
   intro n Γ H l hI
   have w:=step n Γ H hI
   rw [<- Bc] at w
   have w':Wp ((Aj T Φ c Γ).bnd C3) H (fun b H'=>brB b (wpSs T Φ body Γ H' (fun Γ' H''=>∃ m,m < n/\I m Γ' H'') R NoX) (QS Γ H')) NoE:=by
    rw [A0];simp only [Hv];exact w
   refine ex2 w'.get fun b H' zz=>Ac zz fun e q=>?_
   rw [Jv]
   rw [e]
   cases b with
   | false=>exact q
   | true =>
    dsimp only
    have q':wpSs T Φ body Γ H' (fun Γ' H''=>∃ m,m < n/\I m Γ' H'') R NoX:=q
    rw [<- wpSs_eq] at q'
    cases hb:execSs T Φ body Γ H' with
    | bad=>rw [hb] at q';exact q'.elim
    | exc c' Γ2 H2=>rw [hb] at q';exact q'.elim
    | ret v H2=>rw [hb] at q';exact q'
    | next Γ2 H2 =>
     rw [hb] at q'
     refine ex1 q' fun m zz=>Ac zz fun lm hm=>?_
     exact ih m Γ2 H2 (by exact Apo l lm) hm
 exact main Rv n Γ H hn h
end
theorem Wo{Γ:Env'}{i:Nat}{v:Val}{k:Val->Prop}(h:Γ[i]?=some (some v)):Rb Γ i k=k v:=by rw [Eh,h];rfl
theorem wvr{T:Tab}{Φ:Funs}{H:Hp}{Q:Val->Hp->Prop}{E:Nat->Hp->Prop}{Γ:Env'}{i:Nat}{v:Val}(h:Γ[i]?=some (some v)):wpE T Φ (.var i) Γ H Q E=Q v H:=Wo h
theorem wcv{T:Tab}{Φ:Funs}{H:Hp}{Q:List Val->Hp->Prop}{E:Nat->Hp->Prop}{Γ:Env'}{i:Nat}{v:Val}{es:MEs}(h:Γ[i]?=some (some v)):wpEs T Φ (.cons (.var i) es) Γ H Q E=wpEs T Φ es Γ H (fun vs H=>Q (v :: vs) H) E:=Wo h
theorem wsv{T:Tab}{Φ:Funs}{H:Hp}{Q:Val->Hp->Prop}{E:Nat->Hp->Prop}{Γ:Env'}{i j:Nat}{v w:Val}(h:Γ[i]?=some (some v))(k:Γ[j]?=some (some w)):wpE T Φ (.sub (.var i) (.var j)) Γ H Q E=Wp (Dm v w) H Q E:=by rw [A7,wvr h,wvr k]
theorem wbf{T:Tab}{Φ:Funs}{H:Hp}{Q:Val->Hp->Prop}{E:Nat->Hp->Prop}{Γ:Env'}{f:BF}{i:Nat}{v:Val}(h:Γ[i]?=some (some v)):wpE T Φ (.bf f (.cons (.var i) .nil)) Γ H Q E=Wp (bfV f [v]) H Q E:=by rw [Eb,wcv h,Aq]
theorem wat{T:Tab}{Φ:Funs}{H:Hp}{Q:Val->Hp->Prop}{E:Nat->Hp->Prop}{Γ:Env'}{i o c n:Nat}{fs:List (Nat × Val)}{v:Val}(h:Γ[i]?=some (some (.loc o)))(f0:H[o]?=some (.inst c fs))(f1:fs.lookup n=some v):wpE T Φ (.attr (.var i) n) Γ H Q E=Q v H:=by rw [Dq,wvr h,Kh f0 f1]
theorem Agd(k:Nat)(h:0 < k):Int.fdiv ((k:Int) - 1) 2=((par k:Nat):Int):=by
 have:((k:Int) - 1)=((k - 1:Nat):Int):=by exact App h
 rw [this,Int.fdiv_eq_ediv_of_nonneg _ (by decide)]
 unfold par;exact Apq
theorem Abg{D:Val->Prop}(dom:Dom D){a b:Val}(ha:D a)(hb:D b){H:Hp}{k:Bool->Prop}:Er (D2 .lt a b H) k=k (klt a b):=B9 (show D2 .lt a b H=some (klt a b) from dom.lt a b ha hb) k
theorem M0(H:Hp)(l:Nat)(a b:HObj):(H.set l a).set l b=H.set l b:=List.set_set ..
theorem Gc{α β γ:Type}(p:α->β->γ->Prop):∃ q:α->β->γ->Prop,∀ a b c,q a b c↔p a b c:=⟨p,fun _ _ _=>Iff.rfl⟩
inductive UInv(H:Hp)(l:Nat)(x0 x1:Val)(zs:List Val):Nat->Env'->Hp->Prop
 | mk {n:Nat} (ys:List Val) (a b:Option Val) (hp:ys.Perm zs) (hn:n < ys.length):UInv H l x0 x1 zs n [some x0,some x1,some (.loc l),some (.int (n:Nat)),a,b] (H.set l (.list ys))
theorem Adv{T:Tab}{Φ:Funs}{H:Hp}{QS:Env'->Hp->Prop}{R:Val->Hp->Prop}{l n:Nat}{ys:List Val}{x y x0 x1:Val}{a b:Option Val}(g:H[l]?=some (.list ys))(hpos:0 < n)(hx:ys[n]?=some x)(hy:ys[par n]?=some y)
 (q:QS [some x0,some x1,some (.loc l),some (.int (par n:Nat)),some (.int (par n:Nat)),some y] (H.set l (.list ((ys.set (par n) x).set n y)))) :
 wpSs T Φ zT4
  [some x0,some x1,some (.loc l),some (.int (n:Nat)),a,b] H QS R NoX:=by
 have ln:=(List.getElem?_eq_some_iff.mp hx).1
 have lp:=(List.getElem?_eq_some_iff.mp hy).1
 have hxn:ys[((n:Nat):Int).toNat]?=some x:=hx
 have hyn:ys[((par n:Nat):Int).toNat]?=some y:=hy
 refine ⟨by decide,?_⟩
 show Wp (Dm (.loc l) (.int (Int.fdiv ((n:Int) - 1) 2))) H _ _
 rw [Agd n hpos,My g (by exact P9) hyn]
 show Wp (Dm (.loc l) (.int (n:Int))) H _ _
 rw [My g (by exact Ajb hpos) hxn]
 show Wp (A4 (.loc l) (.int (par n:Int)) x) H _ _
 rw [E2 g (by exact P9) (by exact Aac lp)]
 show Wp (A4 (.loc l) (.int (n:Int)) y) _ _ _
 rw [E2 (Bz _ g) (by exact Ajb hpos) (by rw [List.length_set];exact Aac ln),M0,Int.toNat_natCast,Int.toNat_natCast]
 exact q
theorem Wq(d:Nat){D:Val->Prop}(dom:Dom D){i l:Nat}{v:Val}{xs:List Val}{H:Hp}(hi:H[i]?=some (.inst 8 [(4,.loc l)]))(hl:H[l]?=some (.list xs))(hD:∀ x∈xs,D x)(hv:D v)(hn:xs.length < 100000) :
 Wp (Af T_06 (d+1) 30 [.loc i,v]) H (fun r H'=>r=.none/\∃ ys,H'=H.set l (.list ys)/\ys.Perm (xs++[v])) NoE:=by
 have hlid:lid=16777216:=rfl
 have hDz:∀ x∈xs++[v],D x:=fun x hx=>by
  rcases List.mem_append.mp hx with h | h
  · exact hD x h
  · cases List.mem_singleton.mp h;exact hv
 rw [At (g:=Aba) rfl rfl]
 refine Ay (fun w K=>w=.loc l/\H=K) ?_ ?_
 · show Wp (Ja (.loc i) 4) H _ _
   rw [Kh hi (show List.lookup 4 [(4,Val.loc l)]=some (.loc l) from rfl)]
   exact ⟨rfl,rfl⟩
 rintro _ _ ⟨rfl,rfl⟩
 refine Dx (fun K=>K=H.set l (.list (xs++[v]))) ?_ ?_
 · refine Dd rfl hl ?_
   exact ⟨xs,hl,by exact Aet hn hlid,rfl⟩
 rintro _ rfl
 refine Ay (fun w K=>w=.int (xs.length:Nat)/\H.set l (.list (xs++[v]))=K) ?_ ?_
 · show Wp (bfV .len [.loc l]) _ _ _
   rw [Az (Bz _ hl),List.length_append]
   exact ⟨congrArg Val.int (by show ((xs.length+1:Nat):Int) - 1=_;exact Apr),rfl⟩
 rintro _ _ ⟨rfl,rfl⟩
 obtain ⟨I,hI⟩:=Gc (UInv H l (.loc i) v (xs++[v]))
 refine Mz I (n:=xs.length) (Nat.lt_trans hn (by decide)) ((hI _ _ _).mpr (.mk (xs++[v]) _ _ (List.Perm.refl _) (by simp))) ?_
 clear hi hv hD
 intro n Γ K h
 obtain ⟨ys,a,b,hperm,hlt⟩:=(hI _ _ _).mp h
 have g:(H.set l (.list ys))[l]?=some (.list ys):=Bz _ hl
 refine Hu (fun hpos=>?_) (fun hz=>?_)
 · have hpos':0 < n:=by exact Aps hpos
   have hpl:=Af8 hpos'
   obtain ⟨x,hx⟩:∃ x,ys[n]?=some x:=⟨_,List.getElem?_eq_getElem hlt⟩
   obtain ⟨y,hy⟩:∃ y,ys[par n]?=some y:=⟨_,List.getElem?_eq_getElem (by exact Ajc hlt hpl)⟩
   have hDy:∀ x∈ys,D x:=fun x hx=>hDz x (hperm.mem_iff.mp hx)
   show Wp (Dm (.loc l) (.int (n:Int))) _ _ _
   rw [My g (by exact Apt hpos) (show ys[((n:Nat):Int).toNat]?=some x from hx)]
   refine ⟨by decide,?_⟩
   show Wp (Dm (.loc l) (.int (Int.fdiv ((n:Int) - 1) 2))) _ _ _
   rw [Agd n hpos',My g (by exact P9) (show ys[((par n:Nat):Int).toNat]?=some y from hy)]
   show Er (D2 .lt x y _) _
   rw [Abg dom (hDy x (zF hx)) (hDy y (zF hy))]
   refine Dj (fun hlt'=>?_) (fun hge=>?_)
   · refine Adv g hpos' hx hy ⟨par n,hpl,(hI _ _ _).mpr ?_⟩
     rw [M0]
     exact .mk (swap ys (par n) n y x) _ _ ((Og hy hx).trans hperm) (by rw [Mw];exact Ajc hlt hpl)
   · exact ⟨rfl,ys,rfl,hperm⟩
 · exact ⟨rfl,ys,rfl,hperm⟩
structure Only(l:Nat)(H H':Hp):Prop where
 keep:∀ m o,m≠l->H[m]?=some o->H'[m]?=some o
 len:H.length<=H'.length
theorem Only.refl(l:Nat)(H:Hp):Only l H H:=⟨fun _ _ _ h=>h,zI _⟩
theorem Only.trans{l:Nat}{H H1 H2:Hp}(a:Only l H H1)(b:Only l H1 H2):Only l H H2:=⟨fun m o n h=>b.keep m o n (a.keep m o n h),zC a.len b.len⟩
theorem Only.set{l:Nat}{H H':Hp}(a:Only l H H')(o:HObj):Only l H (H'.set l o):=⟨fun m ob n h=>by rw [List.getElem?_set_ne (fun q=>n q.symm)];exact a.keep m ob n h,by rw [List.length_set];exact a.len⟩
theorem Only.new{l:Nat}{H H':Hp}(a:Only l H H')(o:HObj):Only l H (H'++[o]):=⟨fun m ob n h=>by have:=a.keep m ob n h;rw [List.getElem?_append_left (Ce this)];exact this,by rw [List.length_append];have:=a.len;exact Apu this⟩
structure Small(ys:List Val)(k m:Nat)(x:Val):Prop where
 at':ys[m]?=some x
 one:m=k\/k < m
section
variable{Φ:Funs}{H:Hp}{QS:Env'->Hp->Prop}{R:Val->Hp->Prop}{D:Val->Prop}{i l k:Nat}{ys xs:List Val}
theorem Age{j m:Nat}{xm:Val}{x0 x2 x3 x6:Option Val}(dom:Dom D)(hg:H[l]?=some (.list ys))(hD:∀ x∈ys,D x)(hsm:Small ys k m xm)
 (q:∀ m x,Small ys k m x->QS [x0,some (.loc l),x2,x3,some (.int (m:Nat)),some (.int ((2 * k+1+j:Nat):Int)),x6] H) :
 wpSs T_06 Φ zT9
  [x0,some (.loc l),x2,x3,some (.int (m:Nat)),some (.int ((2 * k+1+j:Nat):Int)),x6] H QS R NoX:=by
 simp only [↓Ak,↓Bm,↓Cb,↓Ex,↓F6,↓Bf,↓Eb,↓Ah,↓Aq,↓A2,↓A7,↓Di,↓Ag,↓Ao]
 rw [Az hg,Od]
 refine Hu (fun hlt=>?_) (fun hge=>?_)
 · obtain ⟨z,hz⟩:∃ z,ys[2 * k+1+j]?=some z:=⟨_,List.getElem?_eq_getElem (by exact Apv hlt)⟩
   rw [My hg (v:=z) (by exact Apw) (by rw [Int.toNat_natCast];exact hz),My hg (v:=xm) (by exact P9) (by rw [Int.toNat_natCast];exact hsm.at'),Abg dom (hD z (zF hz)) (hD xm (zF hsm.at'))]
   refine Dj (fun h1=>?_) (fun h1=>?_)
   · exact q _ _ ⟨hz,.inr (by exact Apx)⟩
   · exact q _ _ hsm
 · exact q _ _ hsm
theorem Adw{xk:Val}{x0 x3 x5 x6:Option Val}(dom:Dom D)(hg:H[l]?=some (.list ys))(hD:∀ x∈ys,D x)(hxk:ys[k]?=some xk)
 (q:∀ m x b',Small ys k m x->QS [x0,some (.loc l),some (.int (k:Nat)),x3,some (.int (m:Nat)),b',x6] (H++[.list [.int (2 * (k:Int)+1),.int (2 * (k:Int)+2)]])) :
 wpS T_06 Φ (.each 5 (.list (.cons (.bin .add (.bin .mul (.int 2) (.var 2)) (.int 1)) (.cons (.bin .add (.bin .mul (.int 2) (.var 2)) (.int 2)) .nil))) zT9) [x0,some (.loc l),some (.int (k:Nat)),x3,some (.int (k:Nat)),x5,x6] H QS R NoX:=by
 apply D1
 simp only [↓En,↓Ah,↓Aq,↓Bv,↓A3,↓A2,↓Di,↓Ag,↓Ao,↓Gv,↓I7]
 refine ⟨rfl,rfl,?_⟩
 rw [B9 (Cf (Au _ _))]
 have g2:(H++[.list [.int (2 * (k:Int)+1),.int (2 * (k:Int)+2)]])[l]?=some (.list ys):=(Ext.refl H |>.new _).get hg
 have gn:=Au H (.list [.int (2 * (k:Int)+1),.int (2 * (k:Int)+2)])
 generalize (H++[HObj.list [Val.int (2 * (k:Int)+1),Val.int (2 * (k:Int)+2)]])=H1 at *
 obtain ⟨I,hI⟩:=Gc (fun (j:Nat) (Γ:Env') (H2:Hp)=>H2=H1/\∃ m x b',Γ=[x0,some (.loc l),some (.int (k:Nat)),x3,some (.int (m:Nat)),b',x6]/\Small ys k m x)
 refine Cn I ((hI _ _ _).mpr ⟨rfl,k,xk,x5,rfl,hxk,.inl rfl⟩) ?_ ?_ ?_
 · intro Γ H2 h
   refine Ac ((hI _ _ _).mp h) fun zr0 zz=>ex3 zz fun m x b' zz=>Ac zz fun zr4 hsm=>?_;subst zr0;subst zr4
   exact q m x b' hsm
 · intro j Γ H2 _ h
   obtain ⟨rfl,_⟩:=(hI _ _ _).mp h
   exact Cj gn
 · clear q
   intro j x Γ H2 hx h
   refine Ac ((hI _ _ _).mp h) fun zr0 zz=>ex3 zz fun m xm b' zz=>Ac zz fun zr4 hsm=>?_;subst zr0;subst zr4
   have hj:j < 2/\x=.int ((2 * k+1+j:Nat):Int):=by
    match j,hx with
    | 0,hx=>cases hx;exact ⟨by decide,congrArg Val.int (by exact Apy)⟩
    | 1,hx=>cases hx;exact ⟨by decide,congrArg Val.int (by exact Apz)⟩
   obtain ⟨_,rfl⟩:=hj
   exact ⟨_,rfl,Age dom g2 hD hsm fun m x h=>(hI _ _ _).mpr ⟨rfl,m,x,_,rfl,h⟩⟩
theorem Adx{m:Nat}{x xk:Val}{x0 x5 x6:Option Val}(hg:H[l]?=some (.list ys))(hx:ys[m]?=some x)(hxk:ys[k]?=some xk)
 (q:QS [x0,some (.loc l),some (.int (m:Nat)),some (.bool (!decide ((m:Int)=(k:Int)))),some (.int (m:Nat)),x5,some xk] (H.set l (.list ((ys.set k x).set m xk)))) :
 wpSs T_06 Φ zT6
  [x0,some (.loc l),some (.int (k:Nat)),some (.bool true),some (.int (m:Nat)),x5,x6] H QS R NoX:=by
 have lm:=(List.getElem?_eq_some_iff.mp hx).1
 have lk:=(List.getElem?_eq_some_iff.mp hxk).1
 have hx':ys[((m:Nat):Int).toNat]?=some x:=hx
 have hxk':ys[((k:Nat):Int).toNat]?=some xk:=hxk
 simp only [↓E9,↓Il,↓A3,↓Re,↓wp_glob,↓A2,↓Bv,↓Dk,↓F6,↓Im,↓Bf,↓Io,↓A7,↓Mr,↓Bd,↓Hw,↓En,↓Ke,↓Ax,↓Eb,↓Pt,↓Dl,↓Aq,↓Ah,↓Dq,↓Bx,↓Rf,↓Cb,↓Ak,↓Gi,↓Ex,↓Bt,↓Bm,↓Kf,↓Fa,↓Cd,↓Gv,↓Lp,↓I7,↓F7,↓F8,↓Gj,↓By,↓Ey,↓Mt,↓Mu,↓S6,↓S7,↓V7,↓Od,↓V8,↓Oe,↓Co,↓Ci,↓Dc,↓Dr,↓Ez,↓D9,↓Ip,↓G5,↓G6,↓F9,↓G7,↓G8,↓G9,↓Iq,↓Ir,↓E0,↓It,↓Fb,↓Fc,↓Pv,↓Ag,↓Di,↓V3,↓Ao,↓Ai,↓C5,↓Ct,↓D8,↓F5,↓Ob,List.map_cons,List.map_nil,List.cons_append,List.nil_append,List.set_cons_zero,List.set_cons_succ,List.replicate_succ,List.replicate_zero,Bool.not_true,Bool.not_false,and_true,true_and,and_self]
 rw [My hg (by exact P9) hxk',My hg (by exact P9) hx',E2 hg (by exact P9) (by exact Aac lk),E2 (Bz _ hg) (by exact P9) (by rw [List.length_set];exact Aac lm),M0,Int.toNat_natCast,Int.toNat_natCast]
 exact q
inductive SInv(H:Hp)(i l:Nat)(xs:List Val):Nat->Env'->Hp->Prop
 | go {n:Nat} {K:Hp} (ys:List Val) (k:Nat) (a b c:Option Val) (ho:Only l H K) (hg:K[l]?=some (.list ys)) (hp:ys.Perm xs) (hk:k < ys.length) (hn:n=ys.length - k):SInv H i l xs n [some (.loc i),some (.loc l),some (.int (k:Nat)),some (.bool true),a,b,c] K
 | stop {n:Nat} {K:Hp} (ys:List Val) (k:Nat) (a b c:Option Val) (ho:Only l H K) (hg:K[l]?=some (.list ys)) (hp:ys.Perm xs):SInv H i l xs n [some (.loc i),some (.loc l),some (.int (k:Nat)),some (.bool false),a,b,c] K
theorem Zk(d:Nat)(dom:Dom D)(hil:i≠l)(hi:H[i]?=some (.inst 8 [(4,.loc l)]))(hl:H[l]?=some (.list xs))(hD:∀ x∈xs,D x)(h0:0 < xs.length)(hn:xs.length < 100000) :
 Wp (Af T_06 (d+1) 33 [.loc i]) H (fun r H'=>r=.none/\Only l H H'/\∃ ys,H'[l]?=some (.list ys)/\ys.Perm xs) NoE:=by
 rw [At (g:=Abc) rfl rfl]
 refine Ay (fun w K=>w=.loc l/\H=K) ?_ ?_
 · show Wp (Ja (.loc i) 4) H _ _
   rw [Kh hi (show List.lookup 4 [(4,Val.loc l)]=some (.loc l) from rfl)]
   exact ⟨rfl,rfl⟩
 rintro _ _ ⟨rfl,rfl⟩
 refine Ay (fun w K=>w=.int (0:Nat)/\H=K) ⟨rfl,rfl⟩ ?_
 rintro _ _ ⟨rfl,rfl⟩
 refine Ay (fun w K=>w=.bool true/\H=K) ⟨rfl,rfl⟩ ?_
 rintro _ _ ⟨rfl,rfl⟩
 obtain ⟨I,hI⟩:=Gc (SInv H i l xs)
 refine Dt (fun Γ K=>Only l H K/\∃ ys,K[l]?=some (.list ys)/\ys.Perm xs) ?_ (fun Γ K h=>⟨rfl,h⟩)
 refine Mz I (n:=xs.length) (Nat.lt_trans hn (by decide)) ((hI _ _ _).mpr (.go xs 0 _ _ _ (Only.refl _ _) hl (List.Perm.refl _) h0 rfl)) ?_
 clear hi hl
 intro n Γ K h
 rcases (hI _ _ _).mp h with ⟨ys,k,a,b,c,ho,hg,hperm,hk,hnn⟩ | ⟨ys,k,a,b,c,ho,hg,hperm⟩
 · have hDy:∀ x∈ys,D x:=fun x hx=>hD x (hperm.mem_iff.mp hx)
   obtain ⟨xk,hxk⟩:∃ x,ys[k]?=some x:=⟨_,List.getElem?_eq_getElem hk⟩
   refine Ay (fun w H2=>w=.int (k:Nat)/\K=H2) ⟨rfl,rfl⟩ ?_
   rintro _ _ ⟨rfl,rfl⟩
   refine Adw dom hg hDy hxk fun m x b' hsm=>?_
   have hg2:=(Ext.refl K |>.new (.list [.int (2 * (k:Int)+1),.int (2 * (k:Int)+2)])).get hg
   have ho2:=ho.new (.list [.int (2 * (k:Int)+1),.int (2 * (k:Int)+2)])
   refine Adx hg2 hsm.at' hxk ?_
   have g3:∀ zs,(((K++[HObj.list [Val.int (2 * (k:Int)+1),Val.int (2 * (k:Int)+2)]])).set l (.list zs))[l]?=some (.list zs):=fun zs=>Bz _ hg2
   rcases hsm.one with rfl | pk
   · have exk:x=xk:=Option.some.inj (hsm.at'.symm.trans hxk)
     subst exk
     have same:(ys.set m x).set m x=ys:=by
      rw [List.set_set]
      apply List.ext_getElem?
      intro q
      by_cases e:m=q
      · subst e;rw [List.getElem?_set_self hk,hxk]
      · rw [List.getElem?_set_ne e]
     rw [same,show decide ((m:Int)=(m:Int))=true by simp]
     exact ⟨0,by exact Ap0 hk hnn,(hI _ _ _).mpr (.stop ys m _ _ _ (ho2.set _) (g3 _) hperm)⟩
   · have lm:=(List.getElem?_eq_some_iff.mp hsm.at').1
     rw [show decide ((m:Int)=(k:Int))=false by simpa using fun q:(m:Int)=k=>by exact Ap1 q pk]
     exact ⟨ys.length - m,by exact Ap2 hk pk lm hnn,(hI _ _ _).mpr (.go (swap ys k m xk x) m _ _ _ (ho2.set _) (g3 _) ((Og hxk hsm.at').trans hperm) (by rw [Mw];exact lm) (by rw [Mw]))⟩
 · exact ⟨ho,ys,hg,hperm⟩
end
theorem Ki{T:Tab}{H:Hp}{i c m k:Nat}{fs:List (Nat × Val)}{Q:Nat->Hp->Prop}{E:Nat->Hp->Prop}(h:H[i]?=some (.inst c fs))(hk:T.meth c m=some k):Wp (Cu T (.loc i) m) H Q E=Q k H:=by
 have:Cu T (.loc i) m H=.ok k H:=by
  unfold Cu;rw [Db];simp only [h,hk]
 unfold Wp;rw [this]
theorem Wr(m:Val)(t:List Val)(z:Val)(h:t.getLast?=some z):(((m :: t).dropLast).set 0 z).Perm t:=by
 cases t with
 | nil=>cases h
 | cons a t' =>
  have e:(m :: a :: t').dropLast=m :: (a :: t').dropLast:=rfl
  rw [e]
  show (z :: (a :: t').dropLast).Perm (a :: t')
  have e2:(a :: t')=(a :: t').dropLast++[z]:=by
   rw [List.getLast?_eq_some_getLast (by simp)] at h
   cases h
   exact (List.dropLast_concat_getLast (by simp)).symm
  rw [e2,List.dropLast_concat]
  exact (List.perm_append_singleton z _).symm
theorem Zl(d:Nat){D:Val->Prop}(dom:Dom D){i l:Nat}{xs:List Val}{H:Hp}(hil:i≠l)(hi:H[i]?=some (.inst 8 [(4,.loc l)]))(hl:H[l]?=some (.list xs))(hD:∀ x∈xs,D x)(hn:xs.length < 100000)(h0:xs≠[]) :
 Wp (Af T_06 (d+2) 32 [.loc i]) H (fun r H'=>∃ t ys,xs=r :: t/\Only l H H'/\H'[l]?=some (.list ys)/\ys.Perm t) NoE:=by
 refine ex2 (List.exists_cons_of_ne_nil h0) fun m t zr2=>?_;subst zr2
 rw [At (g:=Abb) rfl rfl]
 refine Ay (fun w K=>w=.loc l/\H=K) ?_ ?_
 · show Wp (Ja (.loc i) 4) H _ _
   rw [Kh hi (show List.lookup 4 [(4,Val.loc l)]=some (.loc l) from rfl)]
   exact ⟨rfl,rfl⟩
 rintro _ _ ⟨rfl,rfl⟩
 refine Gw (fun K=>H=K) ?_ ?_
 · show Wp (bfV .len [.loc l]) H _ _
   rw [Az hl]
   rw [A3,S6]
   exact ⟨congrArg Val.bool (decide_eq_false (by rw [List.length_cons];exact Ap3)),rfl⟩
 rintro _ rfl
 refine Ay (fun w K=>m=w/\H=K) ?_ ?_
 · show Wp (Dm (.loc l) (.int 0)) H _ _
   rw [My hl (v:=m) (k:=0) (by decide) rfl]
   exact ⟨rfl,rfl⟩
 rintro _ _ ⟨rfl,rfl⟩
 obtain ⟨z,hz⟩:∃ z,(m :: t).getLast?=some z:=⟨_,List.getLast?_eq_some_getLast (by simp)⟩
 refine Ay (fun w K=>z=w/\K=H.set l (.list (m :: t).dropLast)) ?_ ?_
 · show Er (Fr .pop (.loc l) H) _
   rw [B9 (Zj hl)]
   exact Af7 hl hz ⟨rfl,rfl⟩
 rintro _ H1 ⟨hr2,e1⟩;refine hr2▸?_
 have g1:H1[l]?=some (.list (m :: t).dropLast):=by rw [e1];exact Bz _ hl
 have o1:Only l H H1:=by rw [e1];exact (Only.refl l H).set _
 clear e1 hl
 show Wp (bfV .len [.loc l]) H1 _ _
 rw [Az g1]
 cases t with
 | nil=>exact ⟨[],[],rfl,o1,g1,List.Perm.refl _⟩
 | cons a t' =>
  have hzl:(a :: t').getLast?=some z:=by simpa using hz
  have perm:=Wr m (a :: t') z hzl
  have len1:((m :: a :: t').dropLast).length=t'.length+1:=by simp
  have i2:(List.set H1 l (.list (((m :: a :: t').dropLast).set 0 z)))[i]?=some (.inst 8 [(4,.loc l)]):=(o1.set _).keep i _ hil hi
  rw [A3,V8,len1]
  show brB (decide (0 < ((t'.length+1:Nat):Int))) _ _
  rw [C6 (by exact Ajd)]
  show Wp (A4 (.loc l) (.int 0) z) H1 _ _
  rw [E2 g1 (by decide) (by rw [len1];exact Ajd)]
  show Wp (Cu T_06 (.loc i) 9) (H1.set l (.list (((m :: a :: t').dropLast).set 0 z))) _ _
  rw [Ki i2 (show T_06.meth 8 9=some 33 from rfl)]
  refine (Zk d dom hil i2 (Bz _ g1) (fun x hx=>hD x (.tail _ (perm.mem_iff.mp hx))) (by rw [List.length_set,len1];exact Ap4) (by rw [List.length_set];simp at hn;exact Ap5 hn len1)).then ?_
  intro _ H3 zz
  refine Ap zz fun zr0 o3 zz=>ex1 zz fun ys zz=>Ac zz fun g3 p3=>?_;subst zr0
  exact ⟨a :: t',ys,rfl,(o1.set _).trans o3,g3,p3.trans perm⟩
theorem Zm(d:Nat){i l:Nat}{xs:List Val}{H:Hp}(hi:H[i]?=some (.inst 8 [(4,.loc l)]))(hl:H[l]?=some (.list xs)) :
 Wp (Af T_06 (d+1) 34 [.loc i]) H (fun r H'=>H'=H/\r=.int (xs.length:Nat)) NoE:=by
 rw [At (g:=Wm) rfl rfl,Wm]
 simp only [↓E9,↓Il,↓A3,↓Re,↓wp_glob,↓A2,↓Bv,↓Dk,↓F6,↓Im,↓Bf,↓Io,↓A7,↓Mr,↓Bd,↓Hw,↓En,↓Ke,↓Ax,↓Eb,↓Pt,↓Dl,↓Aq,↓Ah,↓Dq,↓Bx,↓Rf,↓Cb,↓Ak,↓Gi,↓Ex,↓Bt,↓Bm,↓Kf,↓Fa,↓Cd,↓Gv,↓Lp,↓I7,↓F7,↓F8,↓Gj,↓By,↓Ey,↓Mt,↓Mu,↓S6,↓S7,↓V7,↓Od,↓V8,↓Oe,↓Co,↓Ci,↓Dc,↓Dr,↓Ez,↓D9,↓Ip,↓G5,↓G6,↓F9,↓G7,↓G8,↓G9,↓Iq,↓Ir,↓E0,↓It,↓Fb,↓Fc,↓Pv,↓Ag,↓Di,↓V3,↓Ao,↓Ai,↓C5,↓Ct,↓D8,↓F5,↓Ob,List.map_cons,List.map_nil,List.cons_append,List.nil_append,List.set_cons_zero,List.set_cons_succ,List.replicate_succ,List.replicate_zero,Bool.not_true,Bool.not_false,and_true,true_and,and_self,Kh hi (show List.lookup 4 [(4,Val.loc l)]=some (.loc l) from rfl),Az hl]
theorem Ady(d:Nat)(H:Hp){Q:Val->Hp->Prop}{E:Nat->Hp->Prop}(q:Q (.loc H.length) (H++[.inst 8 [(4,.loc (H.length+1))],.list []])) :
 Wp (Ru T_06 (Af T_06 (d+1)) 8 []) H Q E:=by
 have e:Ru T_06 (Af T_06 (d+1)) 8 [] H=.ok (.loc H.length) (H++[.inst 8 [(4,.loc (H.length+1))],.list []]):=by
  unfold Ru
  show M.bnd _ _ _=_
  rw [Du (show M.alloc (.inst 8 []) H=.ok (.loc H.length) (H++[.inst 8 []]) from rfl)]
  have c:Af T_06 (d+1) 29 [.loc H.length] (H++[.inst 8 []])=.ok .none (H++[.inst 8 [(4,.loc (H.length+1))],.list []]):=by
   have w:Wp (Af T_06 (d+1) 29 [.loc H.length]) (H++[.inst 8 []]) (fun r H'=>r=.none/\H'=H++[.inst 8 [(4,.loc (H.length+1))],.list []]) NoE:=by
    rw [At (g:=Wl) rfl rfl,Wl]
    simp only [↓E9,↓Il,↓A3,↓Re,↓wp_glob,↓A2,↓Bv,↓Dk,↓F6,↓Im,↓Bf,↓Io,↓A7,↓Mr,↓Bd,↓Hw,↓En,↓Ke,↓Ax,↓Eb,↓Pt,↓Dl,↓Aq,↓Ah,↓Dq,↓Bx,↓Rf,↓Cb,↓Ak,↓Gi,↓Ex,↓Bt,↓Bm,↓Kf,↓Fa,↓Cd,↓Gv,↓Lp,↓I7,↓F7,↓F8,↓Gj,↓By,↓Ey,↓Mt,↓Mu,↓S6,↓S7,↓V7,↓Od,↓V8,↓Oe,↓Co,↓Ci,↓Dc,↓Dr,↓Ez,↓D9,↓Ip,↓G5,↓G6,↓F9,↓G7,↓G8,↓G9,↓Iq,↓Ir,↓E0,↓It,↓Fb,↓Fc,↓Pv,↓Ag,↓Di,↓V3,↓Ao,↓Ai,↓C5,↓Ct,↓D8,↓F5,↓Ob,List.map_cons,List.map_nil,List.cons_append,List.nil_append,List.set_cons_zero,List.set_cons_succ,List.replicate_succ,List.replicate_zero,Bool.not_true,Bool.not_false,and_true,true_and,and_self]
    have g:((H++[HObj.inst 8 []])++[HObj.list []])[H.length]?=some (.inst 8 []):=((Ext.refl _).new _).get (Au _ _)
    have st:Bo (.loc H.length) 4 (.loc (H++[HObj.inst 8 []]).length) ((H++[HObj.inst 8 []])++[HObj.list []])=.ok () (((H++[HObj.inst 8 []])++[HObj.list []]).set H.length (HObj.inst 8 [(4,.loc (H++[HObj.inst 8 []]).length)])):=by
     unfold Bo;simp only [g];rfl
    refine Wp.of_eq st ?_
    simp
   refine Ae fun G kG=>?_
   refine ex2 w.get fun r H' zz=>Ap zz fun e1 zr3 zr4=>?_;subst zr3;subst zr4
   refine kG ?_
   exact e1
  rw [Du c]
  rfl
 exact Wp.of_eq e q
end Mine.Internal.Pure
namespace Mine.Internal.Pure
open PySem
section
variable{H:Hp}{Q:Val->Hp->Prop}{E:Nat->Hp->Prop}{d:Nat}
noncomputable def HV(v:Val):Prop:=v=.none\/∃ i:Int,v=.int i/\0<=i/\i<=1000000000
theorem Adz:T_06.globs[0]?=some (.int 30):=rfl
theorem Px:T_06.globs[1]?=some (.int 1000000000):=rfl
theorem Hx{x lo hi:Int}(h1:lo<=x)(h2:x<=hi):Wp (Af T_06 (d+1) 0 [.int x,.int lo,.int hi]) H Q E=Q (.bool true) H:=by
 rw [At (g:=Wc) rfl rfl,Wc]
 simp only [List.map_cons,List.map_nil,List.replicate_zero,List.cons_append,List.nil_append,↓Ak,↓Bm,↓Im,↓Dk,↓Dl,↓A2,↓Ag,↓Ez,↓Ai,↓F5,↓Ct,↓D9,↓D8,↓Cb,↓Bt,↓Bd,↓Io,↓Ao,↓Oe,decide_eq_true h1,decide_eq_true h2]
theorem Zn{r c i j:Int}(h1:0<=i)(h2:i < r)(h3:0<=j)(h4:j < c):Wp (Af T_06 (d+2) 1 [.int r,.int c,.tup [.int i,.int j]]) H Q E=Q (.bool true) H:=by
 rw [At (g:=Wd) rfl rfl,Wd]
 simp only [List.map_cons,List.map_nil,List.replicate_zero,List.cons_append,List.nil_append,↓Ak,↓Bm,↓Im,↓Dk,↓Dl,↓A2,↓Ao,↓Ag,↓E0,↓Ai,↓F5,↓Ct,↓Bf,↓Eb,↓Ah,↓Aq,↓Ey,↓A3,↓S7,↓Cb,↓Bt,↓Bd,↓F6,↓Ax,↓A7,↓Fb,↓Bv,↓Lp,↓Fc,↓Il]
 rw [Hx h1 (by exact Aje h2),Ai,Ct,Hx h3 (by exact Aje h4)]
 rfl
theorem Lr{v:Val}(h:HV v):Wp (Af T_06 (d+2) 4 [v]) H Q E=Q (.bool true) H:=by
 rw [At (g:=Adq) rfl rfl,Adq]
 rcases h with rfl | ⟨i,rfl,h1,h2⟩
 · simp only [List.map_cons,List.map_nil,List.replicate_zero,List.cons_append,List.nil_append,↓Ak,↓Bt,↓Bd,↓Im,↓Bf,↓A2,↓Ag,↓E9,↓Co,↓Ai,↓Ct]
 · simp only [List.map_cons,List.map_nil,List.replicate_zero,List.cons_append,List.nil_append,↓Ak,↓Bt,↓Bd,↓Im,↓Bf,↓A2,↓Ag,↓E9,↓Ci,↓Ai,↓D8,↓Ax,↓Ah,↓A3,↓wp_glob,Px,↓Aq,↓C5]
   exact Hx h1 h2
end
noncomputable def Kj(ns:List Int)(k:Nat):Int:=ns.getD k 0
section
variable{H:Hp}{Q:Val->Hp->Prop}{E:Nat->Hp->Prop}{d:Nat}
theorem Oj{ns:List Int}{k:Nat}(h:k < ns.length):Wp (Dm (.script ns) (.int (k:Int))) H Q E=Q (.int (ns.getD k 0)) H:=by
 have e:ns[k]?=some (ns.getD k 0):=by rw [List.getD_eq_getElem?_getD,List.getElem?_eq_getElem h];rfl
 rw [S5 e];rfl
theorem Gk(ns:List Int)(k:Nat):Wp (Af T_06 (d+1) 8 [.script ns,.int (k:Int)]) H Q E=Q (.int (Kj ns k)) H:=by
 rw [At (g:=Ads) rfl rfl,Ads]
 simp only [List.map_cons,List.map_nil,List.replicate_zero,List.cons_append,List.nil_append,↓Ak,↓Bm,↓Bf,↓A2,↓Ao,↓Ag,↓Eb,↓Ah,↓Aq,↓By,↓Od,↓Ai,↓Bt,↓Bd,↓A7,↓Cb,↓A3]
 by_cases q:(k:Int) < ns.length
 · rw [C6 q,Oj (by exact Aep q)];rfl
 · rw [Ca q]
   show Q (.int 0) H=_
   rw [show Kj ns k=0 by unfold Kj;rw [List.getD_eq_getElem?_getD,List.getElem?_eq_none (by exact Ajf q)];rfl]
noncomputable def OkS(r c:Nat):Prop:=1<=r/\r<=30/\1<=c/\c<=30
theorem Cc(a:Int)(n:Nat)(h:0 < n):∃ k:Nat,Int.fmod a n=k/\k < n:=by
 have h1:=Int.fmod_nonneg_of_pos a (show (0:Int) < n by exact Ajg h)
 have h2:=Int.fmod_lt_of_pos a (show (0:Int) < n by exact Ajg h)
 exact ⟨(Int.fmod a n).toNat,by exact Ap6 h1,by exact Ap7 h1 h2⟩
theorem M1{b:Bool}{A B A' B':Prop}(h:brB b A B)(h1:A->A')(h2:B->B'):brB b A' B':=by
 cases b
 · exact h2 h
 · exact h1 h
theorem Agf(n:Int)(k:Int)(hk:0<=k):∃ v,HV v/\∀ (H:Hp),Wp (Af T_06 (d+1) 11 [.int n,.int k]) H (fun w H'=>w=v/\H'=H) NoE:=by
 refine Ae fun G kG=>?_
 refine ex1 (Cc (Int.fdiv n 9) 3 (by decide)) fun a zz=>Ac zz fun ha la=>?_
 refine ex1 (Cc (Int.fdiv n 9) 12 (by decide)) fun b zz=>Ac zz fun hb lb=>?_
 refine ex1 (Cc (Int.fdiv n 9) 1000000001 (by decide)) fun c zz=>Ac zz fun hc lc=>?_
 refine ex1 (Cc (Int.fdiv n 9) 2 (by decide)) fun e zz=>Ac zz fun he le=>?_
 refine kG ?_
 have st:∀ (v:Val) (H:Hp),brB (decide (Int.fmod n 9=8)) (Val.none=v) (brB (decide (k=0)) (Val.int a=v) (brB (decide (k=1)) (Val.int b=v) (brB (decide (k=2)) (Val.int c=v) (Val.int (1000000000 - e)=v))))->Wp (Af T_06 (d+1) 11 [.int n,.int k]) H (fun w H'=>w=v/\H'=H) NoE:=fun v H h=>by
  rw [At (g:=Aa0) rfl rfl]
  refine ⟨by decide,?_⟩
  show brB (decide (Int.fmod n 9=8)) (Val.none=v/\H=H) (brB (decide (k=0)) (_/\_/\(Val.int (Int.fmod (Int.fdiv n 9) ((3:Nat):Int))=v/\H=H)) (brB (decide (k=1)) (_/\_/\(Val.int (Int.fmod (Int.fdiv n 9) ((12:Nat):Int))=v/\H=H)) (brB (decide (k=2)) (_/\_/\(Val.int (Int.fmod (Int.fdiv n 9) ((1000000001:Nat):Int))=v/\H=H)) (_/\_/\(Val.int (1000000000 - Int.fmod (Int.fdiv n 9) ((2:Nat):Int))=v/\H=H)))))
  rw [ha,hb,hc,he]
  refine M1 h (fun h=>⟨h,rfl⟩) fun h=>M1 h (fun h=>⟨by decide,by decide,h,rfl⟩) fun h=>M1 h (fun h=>⟨by decide,by decide,h,rfl⟩) fun h=>M1 h (fun h=>⟨by decide,by decide,h,rfl⟩) fun h=>⟨by decide,by decide,h,rfl⟩
 by_cases q:Int.fmod n 9=8
 · exact ⟨.none,.inl rfl,fun H=>st _ H (by rw [C6 q])⟩
 by_cases q0:k=0
 · exact ⟨.int a,.inr ⟨a,rfl,by exact Ap8 la,by exact Ap9 la⟩,fun H=>st _ H (by rw [Ca q,C6 q0])⟩
 by_cases q1:k=1
 · exact ⟨.int b,.inr ⟨b,rfl,by exact Aqa lb,by exact Aqb lb⟩,fun H=>st _ H (by rw [Ca q,Ca q0,C6 q1])⟩
 by_cases q2:k=2
 · exact ⟨.int c,.inr ⟨c,rfl,by exact Aqc lc,by exact Aqd lc⟩,fun H=>st _ H (by rw [Ca q,Ca q0,Ca q1,C6 q2])⟩
 · exact ⟨.int (1000000000 - (e:Int)),.inr ⟨_,rfl,by exact Aqe le,by exact Aqf le⟩,fun H=>st _ H (by rw [Ca q,Ca q0,Ca q1,Ca q2])⟩
theorem S9(ns:List Int)(k:Nat)(hk:k<=900):∃ n:Int,∀ (H:Hp),Wp (Af T_06 (d+2) 12 [.script ns,.int (k:Int)]) H (fun w H'=>w=.int n/\H'=H) NoE:=by
 have sm:small (k:Int)=true:=Ga (by exact Aqg hk)
 by_cases q:(k:Int)+3 < ns.length
 · refine ⟨ns.getD (k+3) 0,fun H=>?_⟩
   rw [At (g:=Oi) rfl rfl,Oi]
   simp only [List.map_cons,List.map_nil,List.replicate_zero,List.cons_append,List.nil_append,↓Ak,↓Bm,↓Bf,↓Bv,↓A2,↓Ao,↓Ag,↓A3,↓Gv,↓Eb,↓Ah,↓Aq,↓By,↓Od,↓Ai,↓Bt,↓Bd,↓A7,↓Cb,↓Ax,↓I7]
   rw [C6 q,show (k:Int)+3=((k+3:Nat):Int) by exact Aqh,Oj (by exact Aqi q)]
   exact ⟨rfl,rfl⟩
 · refine ⟨7 * Kj ns 1+Kj ns 2 * k * k+13 * k,fun H=>?_⟩
   rw [At (g:=Oi) rfl rfl,Oi]
   simp only [List.map_cons,List.map_nil,List.replicate_zero,List.cons_append,List.nil_append,↓Ak,↓Bm,↓Bf,↓Bv,↓A2,↓Ao,↓Ag,↓A3,↓Gv,↓Eb,↓Ah,↓Aq,↓By,↓Od,↓Ai,↓Bt,↓Bd,↓A7,↓Cb,↓Ax,↓I7]
   rw [Ca q]
   show Wp (Af T_06 (d+1) 8 [.script ns,.int ((1:Nat):Int)]) H _ _
   rw [Gk]
   refine ⟨rfl,?_⟩
   show Wp (Af T_06 (d+1) 8 [.script ns,.int ((2:Nat):Int)]) H _ _
   rw [Gk]
   refine ⟨by rw [sm,Bool.or_true],by rw [sm,Bool.or_true],rfl,rfl,rfl⟩
end
structure GAt(H:Hp)(l b s:Nat)(g:List (List Val)):Prop where
 top:H[l]?=some (.list ((List.range g.length).map fun i=>.loc (b+s * i)))
 row:∀ i r,g[i]?=some r->H[b+s * i]?=some (.list r)
theorem GAt.ext{H H':Hp}{l b s:Nat}{g:List (List Val)}(x:GAt H l b s g)(e:Ext H H'):GAt H' l b s g:=⟨e.get x.top,fun i r h=>e.get (x.row i r h)⟩
theorem GAt.other{H:Hp}{l b s m:Nat}{g:List (List Val)}(x:GAt H l b s g)(o:HObj)(h1:m≠l)(h2:∀ i,i < g.length->m≠b+s * i):GAt (H.set m o) l b s g :=
 ⟨Ar o h1 x.top,fun i r h=>Ar o (h2 i (List.getElem?_eq_some_iff.mp h).1) (x.row i r h)⟩
theorem GAt.item{H:Hp}{l b s:Nat}{g:List (List Val)}(x:GAt H l b s g){i:Nat}(h:i < g.length):((List.range g.length).map fun i=>Val.loc (b+s * i))[i]?=some (.loc (b+s * i)):=by
 rw [List.getElem?_map,List.getElem?_range h];rfl
section
variable{T:Tab}{Φ:Funs}{Γ:Env'}{H:Hp}{Q:Val->Hp->Prop}{E:Nat->Hp->Prop}
theorem Jl{chk:Hp->Bool}{step:Val->M (Option Val)}{Q:List Val->Hp->Prop}{xs:List Val}(I:Nat->List Val->Hp->Prop)(h0:I 0 [] H)(hc:∀ k out H,I k out H->chk H=true)
 (hs:∀ k x out H,xs[k]?=some x->I k out H->Wp (step x) H (fun r H=>I (k+1) (out++r.toList) H) E) (hd:∀ zs H,I xs.length zs H->Q zs H):Wp (E5 chk step xs) H Q E:=by
 refine Rh (fun ys out H=>∃ k,ys=xs.drop k/\k<=xs.length/\I k out H) xs [] H ⟨0,rfl,Nat.zero_le _,h0⟩ ?_ ?_ ?_
 · rintro ys out H ⟨k,_,_,h⟩;exact hc k out H h
 · intro x ys out H zz
   refine ex1 zz fun k zz=>Ap zz fun e l h=>?_
   have hx:xs[k]?=some x:=by
    have:=congrArg (fun z=>z[0]?) e
    simpa using this.symm
   refine (hs k x out H hx h).mono ?_ (fun _ _ h=>h)
   intro r H h
   refine ⟨k+1,?_,(List.getElem?_eq_some_iff.mp hx).1,h⟩
   have:=congrArg List.tail e
   simpa using this
 · intro zs H zz
   refine ex1 zz fun k zz=>Ap zz fun e l h=>?_
   have:k=xs.length:=by
    have:=congrArg List.length e
    simp at this;exact Aja this l
   subst this;exact hd _ _ h
theorem Ol{elt it:ME}{xs:List Val}{src:Option Nat}(P:Nat->Val->Prop)(hit:wpE T Φ it Γ H (fun v H'=>H'=H/\C0 v H=some (xs,src)) NoE)(hck:chk src xs H=true)(hz:xs.length < lid)
 (he:∀ k x,xs[k]?=some x->wpE T Φ elt (Γ++[some x]) H (fun v H'=>P k v/\H'=H) NoE) (q:∀ ys,ys.length=xs.length->(∀ k v,ys[k]?=some v->P k v)->Q (.loc H.length) (H++[.list ys])):wpE T Φ (.comp elt it .none) Γ H Q E:=by
 refine Ms (A5 hit ?_)
 rintro v H' ⟨e,hi⟩
 rw [e,hi]
 clear e
 refine Jl (fun k out H'=>H'=H/\out.length=k/\∀ j v,out[j]?=some v->P j v) ⟨rfl,rfl,fun j v h=>by cases h⟩ ?_ ?_ ?_
 · rintro k out _ ⟨hr0,_⟩;refine Eq.symm hr0▸?_;exact hck
 · rintro k x out _ hx ⟨hr1,hl,hp⟩;refine Eq.symm hr1▸?_
   refine Ri (A5 (he k x hx) ?_)
   rintro v _ ⟨hv,hr2⟩;refine hr2▸?_
   refine ⟨rfl,by rw [List.length_append,hl];rfl,fun j w hj=>?_⟩
   by_cases c:j < out.length
   · rw [List.getElem?_append_left c] at hj;exact hp j w hj
   · rw [List.getElem?_append_right (by exact Ajh hl c)] at hj
     have:j - out.length=0:=Nat.lt_one_iff.mp (List.getElem?_eq_some_iff.mp hj).1
     rw [this] at hj
     cases hj
     have:j=k:=by exact Aji this hl c
     rw [this];exact hv
 · rintro zs _ ⟨hr3,hl0,hp⟩;refine Eq.symm hr3▸?_
   have hl:zs.length=xs.length:=hl0
   clear hl0
   exact ⟨by exact Aqj hz hl,q zs hl hp⟩
theorem Ws{elt it:ME}{xs:List Val}{src:Option Nat}(s:Nat)(P:Nat->List Val->Prop)(hit:wpE T Φ it Γ H (fun v H'=>H'=H/\C0 v H=some (xs,src)) NoE)(hck:∀ K,Ext H K->chk src xs K=true)(hz:xs.length < lid)
 (he:∀ k x K,xs[k]?=some x->Ext H K->wpE T Φ elt (Γ++[some x]) K (fun v K'=>∃ r,P k r/\v=.loc (K.length+s)/\Ext K K'/\K'.length=K.length+s+1/\K'[K.length+s]?=some (.list r)) NoE)
 (q:∀ g K,g.length=xs.length->(∀ k r,g[k]?=some r->P k r)->Ext H K->GAt K (H.length+(s+1) * g.length) (H.length+s) (s+1) g->K.length=H.length+(s+1) * g.length+1->Q (.loc (H.length+(s+1) * g.length)) K):wpE T Φ (.comp elt it .none) Γ H Q E:=by
 refine Ms (A5 hit ?_)
 rintro v H' ⟨e,hi⟩
 rw [e,hi]
 clear e
 refine Jl (fun k out K=>Ext H K/\K.length=H.length+(s+1) * k/\out=(List.range k).map (fun i=>Val.loc (H.length+s+(s+1) * i))/\∃ g:List (List Val),g.length=k/\(∀ j r,g[j]?=some r->P j r/\K[H.length+s+(s+1) * j]?=some (.list r)))
  ⟨Ext.refl H,rfl,rfl,[],rfl,fun j r h=>by cases h⟩ ?_ ?_ ?_
 · rintro k out K ⟨e,_⟩;exact hck K e
 · intro k x out K hx zz
   refine Cl zz fun e hl zr2 zz=>ex1 zz fun g zz=>Ac zz fun hg hp=>?_;subst zr2
   refine Ri (A5 (he k x K hx e) ?_)
   intro v K' zz
   refine ex1 zz fun r zz=>Ep zz fun pr zr2 e' hl' hr=>?_;subst zr2
   have pos:K.length+s=H.length+s+(s+1) * k:=by exact Aqk hl
   refine ⟨e.trans e',by rw [hl',hl,Nat.mul_succ];exact Aql,?_,g++[r],by rw [List.length_append,hg];rfl,fun j w hj=>?_⟩
   · rw [List.range_succ,List.map_append,pos];rfl
   · by_cases c:j < g.length
     · rw [List.getElem?_append_left c] at hj
       exact ⟨(hp j w hj).1,e'.get (hp j w hj).2⟩
     · rw [List.getElem?_append_right (by exact Ajh hg c)] at hj
       have:j - g.length=0:=Nat.lt_one_iff.mp (List.getElem?_eq_some_iff.mp hj).1
       rw [this] at hj
       cases hj
       have:j=k:=by exact Aji this hg c
       rw [this,<- pos];exact ⟨pr,hr⟩
 · intro zs K zz
   refine Cl zz fun e hl zr2 zz=>ex1 zz fun g zz=>Ac zz fun hg hp=>?_;subst zr2
   have gl:g.length=xs.length:=hg
   refine ⟨by rw [List.length_map,List.length_range];exact hz,?_⟩
   rw [hl,<- gl]
   refine q g _ gl (fun k r h=>(hp k r h).1) (e.new _) ⟨?_,fun i r h=>Ext.get ⟨_,rfl⟩ (hp i r h).2⟩ (by rw [List.length_append,hl,<- gl];rfl)
   have:=Au K (.list ((List.range g.length).map fun i=>Val.loc (H.length+s+(s+1) * i)))
   rw [hl,<- gl] at this
   exact this
theorem Agg{it:ME}{n:Nat}(hn:n<=1000)(h:wpE T Φ it Γ H (fun v H'=>v=.int (n:Int)/\H'=H) NoE):wpE T Φ (.bf .range (.cons it .nil)) Γ H (fun v H'=>H'=H/\C0 v H=some (Mv n,none)) NoE:=by
 rw [Eb,Ah]
 refine A5 h ?_
 rintro v _ ⟨rfl,rfl⟩
 rw [Aq,Gj]
 exact ⟨⟨by exact Aqm hn,by exact Aqn hn⟩,rfl,rfl⟩
theorem Rn{n k:Nat}{x:Val}(h:(Mv n)[k]?=some x):x=.int (k:Int)/\k < n:=by
 obtain ⟨a,b⟩:=Rk h
 exact ⟨a,by exact Aep b⟩
theorem M2(n:Nat):(Mv n).length=n:=by rw [Rl];exact Aqo
theorem Py{it:ME}{k l b s:Nat}{g:List (List Val)}(hk:Γ.length=k)(G:GAt H l b s g)(hz:g.length < lid)(hit:wpE T Φ it Γ H (fun v H'=>v=.loc l/\H'=H) NoE)
 (q:∀ K,Ext H K->GAt K (H.length+g.length) H.length 1 g->K.length=H.length+g.length+1->Q (.loc (H.length+g.length)) K):wpE T Φ (.comp (.bf .list (.cons (.var k) .nil)) it .none) Γ H Q E:=by
 refine Ws (xs:=(List.range g.length).map fun i=>Val.loc (b+s * i)) (src:=some l) 0 (fun j r=>g[j]?=some r) (A5 hit ?_) (fun K e=>Cj (e.get G.top)) (by rw [List.length_map,List.length_range];exact hz) ?_ ?_
 · rintro v _ ⟨rfl,rfl⟩;exact ⟨rfl,Cf G.top⟩
 · intro j x K hx e
   rw [List.getElem?_map] at hx
   cases hj:(List.range g.length)[j]? with
   | none=>rw [hj] at hx;cases hx
   | some i =>
    rw [hj] at hx
    obtain ⟨lt,ej⟩:=List.getElem?_eq_some_iff.mp hj
    rw [List.getElem_range] at ej
    subst ej
    cases hx
    have lt':j < g.length:=by rw [List.length_range] at lt;exact lt
    have hg:g[j]?=some g[j]:=List.getElem?_eq_getElem lt'
    have hr:=e.get (G.row j _ hg)
    rw [Eb,Ah,A2,Eh,List.getElem?_append_right (by exact Ag5 hk),hk,Nat.sub_self]
    have:bfV .list [.loc (b+s * j)] K=.ok (.loc K.length) (K++[.list g[j]]):=by
     show (match C1 (.loc (b+s * j)) K with | some xs=>M.alloc (.list xs) K | none=>.bad)=_
     rw [show C1 (.loc (b+s * j)) K=some g[j] by simp only [C1,hr]];rfl
    exact Wp.of_eq this ⟨_,hg,rfl,⟨_,rfl⟩,by rw [List.length_append];rfl,Au K _⟩
 · intro g' K hl hp e G' hK
   have:g'=g:=by
    rw [List.length_map,List.length_range] at hl
    refine List.ext_getElem? fun i=>?_
    cases h:g'[i]? with
    | some r=>rw [hp i r h]
    | none =>
     rw [List.getElem?_eq_none_iff] at h
     rw [List.getElem?_eq_none (by exact Aqp hK hl h)]
   subst this
   rw [Nat.zero_add,Nat.one_mul] at G' hK ⊢
   exact q K e G' hK
end
structure OkG(g:List (List Val))(r c:Nat):Prop where
 len:g.length=r
 row:∀ (i:Nat) (w:List Val),g[i]?=some w->w.length=c/\∀ v∈w,HV v
section
variable{T:Tab}{Φ:Funs}{Γ:Env'}{H:Hp}{Q:Val->Hp->Prop}{E:Nat->Hp->Prop}{d:Nat}{QS:Env'->Hp->Prop}{R:Val->Hp->Prop}{ES:Nat->Env'->Hp->Prop}
theorem Wt{α:Type}{l:List α}{x:α}{j:Nat}{w:α}(h:(l++[x])[j]?=some w):l[j]?=some w\/(j=l.length/\w=x):=by
 by_cases c:j < l.length
 · rw [List.getElem?_append_left c] at h;exact .inl h
 · rw [List.getElem?_append_right (by exact Aeo c)] at h
   have e:j - l.length=0:=Nat.lt_one_iff.mp (List.getElem?_eq_some_iff.mp h).1
   rw [e] at h
   cases h
   exact .inr ⟨by exact Ai9 e c,rfl⟩
end
section
variable{T:Tab}{Φ:Funs}{Γ:Env'}{H:Hp}{Q:Val->Hp->Prop}{E:Nat->Hp->Prop}{d:Nat}{QS:Env'->Hp->Prop}{R:Val->Hp->Prop}{ES:Nat->Env'->Hp->Prop}
noncomputable def B4(i c:Nat):List Val:=(List.range c).map fun (j:Nat)=>.tup [.int (i:Int),.int (j:Int)]
noncomputable def cells(r c:Nat):List Val:=(List.range r).flatMap fun i=>B4 i c
theorem Iv(r c:Nat):cells (r+1) c=cells r c++B4 r c:=by
 unfold cells;rw [List.range_succ];simp
theorem Hy(i c:Nat):B4 i (c+1)=B4 i c++[.tup [.int (i:Int),.int (c:Int)]]:=by
 unfold B4;rw [List.range_succ,List.map_append];rfl
theorem Hz(r c:Nat):(cells r c).length=r * c:=by
 induction r with
 | zero=>simp [cells]
 | succ r ih=>rw [Iv,List.length_append,ih,B4,List.length_map,List.length_range,Nat.succ_mul]
theorem Pz(K:Hp)(a b:HObj):(K++[a]).set K.length b=K++[b]:=by
 rw [List.set_append_right _ _ (zI _),Nat.sub_self];rfl
theorem Om{r c:Nat}(hr:r<=30)(hc:c<=30):Wp (Af T_06 (d+1) 3 [.int (r:Int),.int (c:Int)]) H (fun v H'=>v=.loc H.length/\H'=H++[.list (cells r c)]) NoE:=by
 have hlid:lid=16777216:=rfl
 rw [At (g:=Af9) rfl rfl]
 refine Ay (fun v H'=>v=.loc H.length/\H'=H++[.list []]) ?_ ?_
 · simp only [↓En,↓Aq,and_self]
 rintro _ H1 ⟨rfl,e⟩
 rw [e];clear e H1
 refine Dt (fun Γ H'=>∃ a b,Γ=[some (.int r),some (.int c),some (.loc H.length),a,b]/\H'=H++[.list (cells r c)]) ?_ ?_
 · refine E1 (n:=r) (fun k Γ K=>∃ a b,Γ=[some (.int r),some (.int c),some (.loc H.length),a,b]/\K=H++[.list (cells k c)]/\k<=r) ?_ ?_ ?_ ?_ ?_
   · simp only [↓A2,List.map_cons,List.map_nil,List.replicate_succ,List.replicate_zero,List.cons_append,List.nil_append,List.set_cons_succ,List.set_cons_zero,and_true,↓Ag]
   · exact Ajj hr
   · exact ⟨_,_,rfl,rfl,Nat.zero_le _⟩
   · intro k Γ K hk zz
     refine ex2 zz fun a b zz=>Ap zz fun zr2 zr3 _=>?_;subst zr2;subst zr3
     refine Dt (fun Γ K=>∃ a b,Γ=[some (.int r),some (.int c),some (.loc H.length),a,b]/\K=H++[.list (cells (k+1) c)]/\k+1<=r) ?_ (fun Γ K h=>by skip;exact h)
     refine E1 (n:=c) (fun j Γ K=>∃ b,Γ=[some (.int r),some (.int c),some (.loc H.length),some (.int k),b]/\K=H++[.list (cells k c++B4 k j)]/\j<=c) ?_ ?_ ?_ ?_ ?_
     · simp only [↓A2,List.set_cons_succ,List.set_cons_zero,and_true,↓Ao,↓Ag]
     · exact Ajj hc
     · exact ⟨_,rfl,by simp [B4],Nat.zero_le _⟩
     · intro j Γ K hj zz
       refine ex1 zz fun b zz=>Ap zz fun zr1 zr2 _=>?_;subst zr1;subst zr2
       refine Dx (fun K'=>K'=H++[.list (cells k c++B4 k (j+1))]) ?_ ?_
       · refine Dd rfl (Au H _) ?_
         simp only [↓Hw,↓Ah,↓A2,List.set_cons_succ,List.set_cons_zero,↓Aq,↓Ao,↓Ag]
         refine ⟨_,Au H _,?_,?_⟩
         · rw [List.length_append,Hz,B4,List.length_map,List.length_range]
           have:=Nat.mul_le_mul (show k<=30 by exact Aqq hk hr) hc
           exact Aqr hj hlid this hc
         · rw [Pz,List.append_assoc,<- Hy]
       · rintro K' rfl
         exact ⟨_,rfl,rfl,by exact Ajk hj⟩
     · intro Γ K zz
       refine ex1 zz fun b zz=>Ap zz fun zr1 e _=>?_;subst zr1
       rw [Int.toNat_natCast,<- Iv] at e
       exact ⟨_,_,rfl,e,by exact Ajk hk⟩
   · intro Γ K zz
     refine ex2 zz fun a b zz=>Ap zz fun e e' _=>?_
     rw [Int.toNat_natCast] at e'
     exact ⟨a,b,e,e'⟩
 intro Γ K zz
 refine ex2 zz fun a b zz=>Ac zz fun zr2 zr3=>?_;subst zr2;subst zr3
 simp only [↓Ak,↓Bt,↓Bd,↓A2,↓Ao,↓Ag,and_self]
theorem Zo{i j l m:Nat}{a b:ME}{body:MSs}{xs ys:List Val}(I:Nat->Env'->Hp->Prop)(ha:wpE T Φ a Γ H (fun v H'=>v=.loc l/\H'=H) NoE)(hb:wpE T Φ b Γ H (fun v H'=>v=.loc m/\H'=H) NoE)
 (hl:H[l]?=some (.list xs)) (hm:H[m]?=some (.list ys)) (e:xs.length=ys.length) (h0:I 0 Γ (H++[.hid])) (hx:∀ k Γ K,I k Γ K->Ext (H++[.hid]) K)
 (hs:∀ k x y Γ K,xs[k]?=some x->ys[k]?=some y->I k Γ K->wpSs T Φ body ((Γ.set i (some x)).set j (some y)) K (I (k+1)) R ES)
 (hd:∀ Γ K,I xs.length Γ K->QS Γ K):wpS T Φ (.eachZip i j a b body) Γ H QS R ES:=by
 refine Pu (A5 ha ?_)
 rintro v H' ⟨rfl,e1⟩
 rw [e1];clear e1 H'
 refine A5 hb ?_
 rintro v H' ⟨rfl,e1⟩
 rw [e1];clear e1 H'
 rw [B9 (show Nl (.loc l) (.loc m) H=some ((xs,some l),(ys,some m)) by unfold Nl;simp only [Kg hl,Kg hm])]
 refine ⟨e,?_⟩
 have pl:∀ (xs ys:List Val),xs.length=ys.length->(Dw xs ys).length=xs.length/\∀ (k:Nat) z,(Dw xs ys)[k]?=some z->∃ x y,xs[k]?=some x/\ys[k]?=some y/\z=.tup [x,y]:=by
  intro xs
  induction xs with
  | nil=>intro ys e;exact ⟨rfl,fun k z h=>by cases h⟩
  | cons x xs ih =>
   intro ys e
   cases ys with
   | nil=>cases e
   | cons y ys =>
    obtain ⟨h1,h2⟩:=ih ys (Nat.succ.inj e)
    refine ⟨congrArg (·+1) h1,fun k z h=>?_⟩
    cases k with
    | zero=>cases h;exact ⟨x,y,rfl,rfl,rfl⟩
    | succ k=>exact h2 k z h
 obtain ⟨p1,p2⟩:=pl xs ys e
 refine Cn I h0 ?_ ?_ ?_
 · intro Γ K h;rw [show (Dw xs ys).length=xs.length from p1] at h;exact hd Γ K h
 · intro k Γ K _ h
   have eK:=hx k Γ K h
   have e0:Ext H (H++[HObj.hid]):=⟨_,rfl⟩
   have h3:Nm H.length K=true:=by unfold Nm;rw [eK.get (Au H _)]
   show (chk (some l) xs K && chk (some m) ys K && Nm H.length K)=true
   rw [Cj (eK.get (e0.get hl)),Cj (eK.get (e0.get hm)),h3];rfl
 · intro k z Γ K hz h
   refine Ae fun G kG=>?_
   refine ex2 (p2 k z hz) fun x y zz=>Ap zz fun hx' hy zr4=>?_;subst zr4
   refine kG ?_
   exact ⟨_,rfl,hs k x y Γ K hx' hy h⟩
end
section
variable{T:Tab}{Φ:Funs}{Γ:Env'}{H:Hp}{Q:Val->Hp->Prop}{E:Nat->Hp->Prop}{d:Nat}{QS:Env'->Hp->Prop}{R:Val->Hp->Prop}{ES:Nat->Env'->Hp->Prop}
theorem C7{i c n:Nat}{fs:List (Nat × Val)}{v:Val}(h:H[i]?=some (.inst c fs))(hf:fs.lookup n=some v):Wp (Ja (.loc i) n) H Q E=Q v H:=by
 have:Ja (.loc i) n H=.ok v H:=by
  unfold Ja;rw [Db];simp only [h,hf]
 unfold Wp;rw [this]
theorem Fd{i c n:Nat}{fs:List (Nat × Val)}{v:Val}{Q:Unit->Hp->Prop}(h:H[i]?=some (.inst c fs)):Wp (Bo (.loc i) n v) H Q E=Q () (H.set i (.inst c (Tk fs n v))):=by
 have:Bo (.loc i) n v H=.ok () (H.set i (.inst c (Tk fs n v))):=by
  unfold Bo;simp only [h]
 unfold Wp;rw [this]
theorem Kk{l:Nat}{xs:List Val}{k:Int}{v:Val}{Q:Unit->Hp->Prop}(h:H[l]?=some (.list xs))(h0:0<=k)(h1:k < xs.length):Wp (A4 (.loc l) (.int k) v) H Q E=Q () (H.set l (.list (xs.set k.toNat v))):=by
 have:A4 (.loc l) (.int k) v H=.ok () (H.set l (.list (xs.set k.toNat v))):=by
  unfold A4;simp only [h];exact if_pos ⟨h0,h1⟩
 unfold Wp;rw [this]
theorem Cz{l:Nat}{xs:List Val}(h:H[l]?=some (.list xs)){k:Nat}{v:Val}(hk:xs[k]?=some v):Wp (Dm (.loc l) (.int (k:Int))) H Q E=Q v H:=by
 have lt:=(List.getElem?_eq_some_iff.mp hk).1
 have:Dm (.loc l) (.int (k:Int)) H=.ok v H:=by
  unfold Dm;rw [Db]
  simp only [h,Wa k xs.length lt,Option.bind_some,hk]
 unfold Wp;rw [this]
theorem Fe{i c m k:Nat}{fs:List (Nat × Val)}{Q:Nat->Hp->Prop}(h:H[i]?=some (.inst c fs))(hk:T.meth c m=some k):Wp (Cu T (.loc i) m) H Q E=Q k H:=by
 have:Cu T (.loc i) m H=.ok k H:=by
  unfold Cu;rw [Db];simp only [h,hk]
 unfold Wp;rw [this]
theorem H8{i l:Nat}{it:ME}{body:MSs}{xs:List Val}(I:Nat->Env'->Hp->Prop)(hit:wpE T Φ it Γ H (fun v H'=>v=.loc l/\H'=H) NoE)(hl:H[l]?=some (.list xs))(h0:I 0 Γ H)(hx:∀ k Γ K,I k Γ K->K[l]?=some (.list xs))
 (hs:∀ k x Γ K,xs[k]?=some x->I k Γ K->wpSs T Φ body (Γ.set i (some x)) K (I (k+1)) R ES) (hd:∀ Γ K,I xs.length Γ K->QS Γ K):wpS T Φ (.each i it body) Γ H QS R ES:=by
 refine D1 (A5 hit ?_)
 rintro v H' ⟨rfl,e⟩
 rw [e,B9 (Cf hl)]
 exact Cn I h0 hd (fun k Γ K _ h=>Cj (hx k Γ K h)) fun k x Γ K hx h=>⟨_,rfl,hs k x Γ K hx h⟩
theorem On{l b s r c:Nat}{g:List (List Val)}{k:Nat}{x:Val}(og:OkG g r c)(G:GAt H l b s g)(hx:((List.range g.length).map fun i=>Val.loc (b+s * i))[k]?=some x):∃ w,x=.loc (b+s * k)/\g[k]?=some w/\H[b+s * k]?=some (.list w)/\w.length=c/\∀ v∈w,HV v:=by
 have lt:k < g.length:=by have:=(List.getElem?_eq_some_iff.mp hx).1;simpa using this
 rw [G.item lt] at hx
 cases hx
 have hg:g[k]?=some g[k]:=List.getElem?_eq_getElem lt
 exact ⟨g[k],rfl,hg,G.row k _ hg,og.row k _ hg⟩
theorem Abh{l n:Nat}{w:List Val}{k:Nat}{Γ:Env'}(g:Γ[k]?=some (some (.loc l)))(h:H[l]?=some (.list w))(e:w.length=n)(h1:1<=n)(h2:n<=30):wpE T_06 (Af T_06 (d+1)) (.or (.not (.isinst (.var k) .list)) (.not (.call 0 (.cons (.bf .len (.cons (.var k) .nil)) (.cons (.int 1) (.cons (.glob 0) .nil)))))) Γ H (fun v K=>v=.bool false/\H=K) NoE:=by
 rw [Im,Dk,Dl,wvr g,V9 _ _ h,Ai]
 rw [Ai]
 show wpE _ _ _ _ _ _ _
 rw [Dk,Ax,Ah,Eb,wcv g,Aq,Az h,Ah,A3,Ah,wp_glob,Adz,C5,Aq,e,Hx (by exact Aqs h1 h2) (by exact Aqt h1 h2)]
 exact ⟨rfl,rfl⟩
theorem Ad0{l b s r c:Nat}{g:List (List Val)}{x1:Option Val}(hS:OkS r c)(og:OkG g r c)(G:GAt H l b s g)(q:∀ a,QS [some (.loc l),a] H):wpS T_06 (Af T_06 (d+1)) (.each 1 (.var 0) zT8) [some (.loc l),x1] H QS R NoX:=by
 unfold OkS at hS
 obtain ⟨I,hI⟩:=Gc (fun (k:Nat) (Γ:Env') (K:Hp)=>H=K/\∃ a,Γ=[some (.loc l),a])
 refine H8 I ⟨rfl,rfl⟩ G.top ((hI _ _ _).mpr ⟨rfl,_,rfl⟩) (fun k Γ K h=>by rw [<- ((hI _ _ _).mp h).1];exact G.top) ?_ ?_
 · intro k x Γ K hx h
   refine Ac ((hI _ _ _).mp h) fun zr0 zz=>ex1 zz fun a zr2=>?_;subst zr0;subst zr2
   refine ex1 (On og G hx) fun w zz=>Ep zz fun zr1 hg hr lw _=>?_;subst zr1
   exact Gw _ (Abh rfl hr lw (by exact Aqu hS lw) (by exact Aqv hS lw)) fun K h=>(hI _ _ _).mpr ⟨h,_,rfl⟩
 · intro Γ K h
   refine Ac ((hI _ _ _).mp h) fun zr0 zz=>ex1 zz fun a zr2=>?_;subst zr0;subst zr2
   exact q a
theorem Agh{l b s r c:Nat}{g:List (List Val)}{x1:Option Val}(hS:OkS r c)(og:OkG g r c)(G:GAt H l b s g)(q:∀ a,QS [some (.loc l),a] H):wpS T_06 (Af T_06 (d+1)) (.each 1 (.var 0) zT10) [some (.loc l),x1] H QS R NoX:=by
 unfold OkS at hS
 obtain ⟨x0,hx0⟩:∃ x,((List.range g.length).map fun i=>Val.loc (b+s * i))[0]?=some x:=⟨_,List.getElem?_eq_getElem (by rw [List.length_map,List.length_range,og.len];exact Agw hS)⟩
 refine ex1 (On og G hx0) fun w0 zz=>Ep zz fun zr1 _ hr0 lw0 _=>?_;subst zr1
 obtain ⟨I,hI⟩:=Gc (fun (k:Nat) (Γ:Env') (K:Hp)=>H=K/\∃ a,Γ=[some (.loc l),a])
 refine H8 I ⟨rfl,rfl⟩ G.top ((hI _ _ _).mpr ⟨rfl,_,rfl⟩) (fun k Γ K h=>by rw [<- ((hI _ _ _).mp h).1];exact G.top) ?_ ?_
 · clear q
   intro k x Γ K hx h
   refine Ac ((hI _ _ _).mp h) fun zr0 zz=>ex1 zz fun a zr2=>?_;subst zr0;subst zr2
   refine ex1 (On og G hx) fun w zz=>Ep zz fun hr1 hg hr lw _=>?_;refine Eq.symm hr1▸?_
   refine Gw (fun K=>H=K) ?_ fun K h=>(hI _ _ _).mpr ⟨h,_,rfl⟩
   show Wp (bfV .len [.loc (b+s * k)]) H _ _
   rw [Az hr]
   show Wp (Dm (.loc l) (.int ((0:Nat):Int))) H _ _
   rw [Cz G.top hx0]
   show Wp (bfV .len [.loc (b+s * 0)]) H _ _
   rw [Az hr0,lw,lw0,S7,decide_eq_true rfl]
   exact ⟨rfl,rfl⟩
 · intro Γ K h
   refine Ac ((hI _ _ _).mp h) fun zr0 zz=>ex1 zz fun a zr2=>?_;subst zr0;subst zr2
   exact q a
theorem Zp{l b s r c:Nat}{g:List (List Val)}(hS:OkS r c)(og:OkG g r c)(G:GAt H l b s g):Wp (Af T_06 (d+2) 5 [.loc l]) H (fun v H'=>v=.none/\H'=H) NoE:=by
 have hS':=hS
 unfold OkS at hS'
 rw [At (g:=Adr) rfl rfl,Adr]
 refine Gw _ (Abh rfl G.top (show _=r by rw [List.length_map,List.length_range,og.len]) hS'.1 hS'.2.1) ?_
 rintro _ rfl
 rw [Ak]
 refine Ad0 hS og G fun a=>?_
 rw [Ak]
 exact Agh hS og G fun a=>⟨rfl,rfl⟩
structure LandAt(H:Hp)(o r c lg b s ls:Nat)(g:List (List Val))(es:List (Key × Val)):Prop where
 inst:∃ fs,H[o]?=some (.inst 7 fs)/\fs.lookup 0=some (.int (r:Int))/\fs.lookup 1=some (.int (c:Int))/\fs.lookup 2=some (.loc lg)/\fs.lookup 3=some (.loc ls)
 grid:GAt H lg b s g
 sinks:H[ls]?=some (.dict es)
theorem LandAt.ext{H':Hp}{o r c lg b s ls:Nat}{g:List (List Val)}{es:List (Key × Val)}(x:LandAt H o r c lg b s ls g es)(e:Ext H H'):LandAt H' o r c lg b s ls g es:=by
 refine ex1 x.inst fun fs zz=>Ac zz fun h1 h2=>?_
 exact ⟨⟨fs,e.get h1,h2⟩,x.grid.ext e,e.get x.sinks⟩
structure But(l:Nat)(H H':Hp):Prop where
 keep:∀ m ob,m≠l->H[m]?=some ob->H'[m]?=some ob
 len:H.length<=H'.length
theorem Zq{o l b s r c:Nat}{g:List (List Val)}(og:OkG g r c)(G:GAt H l b s g)(q:∀ a b,QS [some (.loc o),some (.loc l),a,b] H) :
 wpS T_06 (Af T_06 (d+2)) (.each 2 (.var 1) zT11) [some (.loc o),some (.loc l),none,none] H QS R NoX:=by
 obtain ⟨I,hI⟩:=Gc (fun (k:Nat) (Γ:Env') (K:Hp)=>H=K/\∃ a b,Γ=[some (.loc o),some (.loc l),a,b])
 refine H8 I ⟨rfl,rfl⟩ G.top ((hI _ _ _).mpr ⟨rfl,_,_,rfl⟩) (fun k Γ K h=>by rw [<- ((hI _ _ _).mp h).1];exact G.top) ?_ ?_
 · clear q
   intro k x Γ K hx h
   refine Ac ((hI _ _ _).mp h) fun zr0 zz=>ex2 zz fun a b' zr3=>?_;subst zr0;subst zr3
   refine ex1 (On og G hx) fun w zz=>Ep zz fun zr1 hg hr lw hw=>?_;subst zr1
   refine H8 I ⟨rfl,rfl⟩ hr ((hI _ _ _).mpr ⟨rfl,_,_,rfl⟩) (fun k Γ K h=>by rw [<- ((hI _ _ _).mp h).1];exact hr) ?_ (fun Γ K h=>(hI _ _ _).mpr ((hI _ _ _).mp h))
   intro j v Γ K2 hv h
   refine Ac ((hI _ _ _).mp h) fun zr0 zz=>ex2 zz fun a b' zr3=>?_;subst zr0;subst zr3
   refine Gw (fun K=>H=K) ?_ (fun K h=>(hI _ _ _).mpr ⟨h,_,_,rfl⟩)
   rw [Dk,Ax,wcv (v:=v) rfl,Aq,Lr (hw v (zF hv))]
   exact ⟨rfl,rfl⟩
 · intro Γ K h
   refine Ac ((hI _ _ _).mp h) fun zr0 zz=>ex2 zz fun a b zr3=>?_;subst zr0;subst zr3
   exact q a b
theorem Zr{o l b s r c:Nat}{g:List (List Val)}(hS:OkS r c)(og:OkG g r c)(G:GAt H l b s g)(ho:H[o]?=some (.inst 7 [])) :
 Wp (Af T_06 (d+3) 23 [.loc o,.loc l]) H (fun v H'=>v=.none/\But o H H'/\∃ lg b' ls,LandAt H' o r c lg b' 1 ls g []/\H.length<=b'/\lg=b'+r/\H.length<=ls) NoE:=by
 have hS':=hS
 unfold OkS at hS'
 have len:((List.range g.length).map fun i=>Val.loc (b+s * i)).length=r:=by rw [List.length_map,List.length_range,og.len]
 have ne:∀ k w,g[k]?=some w->o≠b+s * k:=fun k w hg q=>by have:=G.row k w hg;rw [<- q,ho] at this;cases this
 have nl:o≠l:=fun q=>by have:=G.top;rw [<- q,ho] at this;cases this
 have G1:∀ ob,GAt (H.set o ob) l b s g:=fun ob=>G.other ob nl fun i hi=>ne i g[i] (List.getElem?_eq_getElem hi)
 rw [At (g:=Aa9) rfl rfl]
 refine Dx (fun K=>H=K) ?_ ?_
 · exact (Zp hS og G).then fun v H' h=>h.2.symm
 rintro _ hr0;refine hr0▸?_
 refine Zq og G fun a b'=>?_
 obtain ⟨x0,hx0⟩:∃ x,((List.range g.length).map fun i=>Val.loc (b+s * i))[0]?=some x:=⟨_,List.getElem?_eq_getElem (by skip;exact Aqw hS' len)⟩
 refine ex1 (On og G hx0) fun w0 zz=>Ep zz fun zr1 hg0 hr0 lw0 _=>?_;subst zr1
 show Wp (bfV .len [.loc l]) H _ _
 rw [Az G.top,len]
 show Wp (Bo (.loc o) 0 (.int (r:Int))) H _ _
 rw [Fd ho]
 show Wp (Dm (.loc l) (.int ((0:Nat):Int))) _ _ _
 rw [Cz (G1 _).top hx0]
 show Wp (bfV .len [.loc (b+s * 0)]) _ _ _
 rw [Az ((G1 _).row 0 w0 hg0),lw0]
 show Wp (Bo (.loc o) 1 (.int (c:Int))) _ _ _
 rw [Fd (Bz _ ho),List.set_set]
 refine Py (l:=l) (b:=b) (s:=s) (g:=g) rfl (G1 _) (by rw [og.len];show r < 16777216;exact Ajl hS' len) ⟨rfl,rfl⟩ ?_
 intro K2 e2 G2 hK2
 rw [List.length_set] at G2 hK2 ⊢
 have o2:=e2.get (Bz (HObj.inst 7 [(0,Val.int (r:Int)),(1,Val.int (c:Int))]) ho)
 have lo:o < H.length:=Ce ho
 have e3:∀ (X:Hp) (ob:HObj),Ext X (X++[ob]):=fun X ob=>⟨_,rfl⟩
 show Wp (Bo (.loc o) 2 (.loc (H.length+g.length))) K2 _ _
 rw [Fd o2]
 show Wp (Bo (.loc o) 3 _) (_++[.dict []]) _ _
 rw [Fd ((e3 _ _).get (Bz _ o2))]
 have G3:∀ (X:Hp) (ob:HObj),GAt X (H.length+g.length) H.length 1 g->GAt (X.set o ob) (H.length+g.length) H.length 1 g:=fun X ob x=>x.other ob (by exact Aqx lo) fun i _=>by exact Aqy lo
 refine ⟨rfl,⟨fun m ob hm h=>?_,?_⟩,H.length+g.length,H.length,K2.length,⟨⟨_,Bz _ ((e3 _ _).get (Bz _ o2)),rfl,rfl,rfl,?_⟩,G3 _ _ ((G3 _ _ G2).ext (e3 _ _)),?_⟩,zI _,by rw [og.len],by exact Aqz hK2⟩
 · exact Ar _ (Ne.symm hm) ((e3 _ _).get (Ar _ (Ne.symm hm) (e2.get (Ar _ (Ne.symm hm) h))))
 · rw [List.length_set,List.length_append,List.length_set];exact Aq0 hK2
 · rw [List.length_set];rfl
 · refine Ar _ (by exact Aq1 lo hK2) ?_
   have:=Au (K2.set o (HObj.inst 7 (Tk [(0,Val.int (r:Int)),(1,Val.int (c:Int))] 2 (Val.loc (H.length+g.length))))) (.dict [])
   rw [List.length_set] at this
   exact this
end
section
variable{T:Tab}{Φ:Funs}{Γ:Env'}{H:Hp}{Q:Val->Hp->Prop}{E:Nat->Hp->Prop}{d:Nat}{QS:Env'->Hp->Prop}{R:Val->Hp->Prop}{ES:Nat->Env'->Hp->Prop}
theorem Abi{H H':Hp}(h:∀ (m:Nat) (ob:HObj),H[m]?=some ob->H'[m]?=some ob):Ext H H':=by
 refine ⟨H'.drop H.length,List.ext_getElem? fun i=>?_⟩
 by_cases c:i < H.length
 · rw [List.getElem?_append_left c,List.getElem?_eq_getElem c]
   exact h i _ (List.getElem?_eq_getElem c)
 · rw [List.getElem?_append_right (by exact Aeo c),List.getElem?_drop,show H.length+(i - H.length)=i by exact Aq2 c]
theorem Ad1{l b s r c:Nat}{g:List (List Val)}(hS:OkS r c)(og:OkG g r c)(G:GAt H l b s g):Wp (Ru T_06 (Af T_06 (d+3)) 7 [.loc l]) H (fun v H'=>v=.loc H.length/\Ext H H'/\∃ lg b' ls,LandAt H' H.length r c lg b' 1 ls g []/\H.length < b'/\lg=b'+r/\H.length < ls) NoE:=by
 show Wp ((M.alloc (.inst 7 [])).bnd fun o=>(Af T_06 (d+3) 23 [o,.loc l]).bnd fun r=>match r with
  | .none=>.ret o
  | _=>.bad) H _ _
 rw [A0,Zf,A0]
 have e0:Ext H (H++[HObj.inst 7 []]):=⟨_,rfl⟩
 refine (Zr hS og (G.ext e0) (Au H _)).then ?_
 intro v H' zz
 refine Ap zz fun zr0 bt zz=>ex3 zz fun lg b' ls zz=>Cl zz fun L h1 h2 h3=>?_;subst zr0
 rw [List.length_append,List.length_singleton] at h1 h3
 refine ⟨rfl,Abi fun m ob hm=>bt.keep m ob (Nat.ne_of_lt (Ce hm)) (e0.get hm),lg,b',ls,L,h1,h2,h3⟩
theorem P2{o r c lg b s ls:Nat}{g:List (List Val)}{es:List (Key × Val)}(og:OkG g r c)(hr:r<=30)(L:LandAt H o r c lg b s ls g es):Wp (Af T_06 (d+1) 28 [.loc o]) H (fun v H'=>v=.loc (H.length+r)/\Ext H H'/\GAt H' (H.length+r) H.length 1 g) NoE:=by
 have hlid:lid=16777216:=rfl
 refine ex1 L.inst fun fs zz=>Ep zz fun h0 h1 h2 h3 h4=>?_
 rw [At (g:=Wk) rfl rfl,Wk]
 simp only [List.map_cons,List.map_nil,List.replicate_zero,List.cons_append,List.nil_append,↓Ak,↓Bt,↓Bd]
 refine Py (l:=lg) (b:=b) (s:=s) (g:=g) rfl L.grid (by rw [og.len];exact Aq3 hlid hr) ?_ ?_
 · simp only [↓Dq,↓A2,↓Ag]
   rw [C7 h0 h3]
   exact ⟨rfl,rfl⟩
 · intro K e G _
   rw [og.len] at G ⊢
   exact ⟨rfl,e,G⟩
noncomputable def inD(es:List (Key × Val))(x:Val):Bool:=match Es x with
 | some k=>(Fj es k).isSome
 | none=>false
theorem M3{r c:Nat}{x:Val}(h:x∈cells r c):∃ i j:Nat,x=.tup [.int (i:Int),.int (j:Int)]/\i < r/\j < c:=by
 unfold cells B4 at h
 refine ex1 (List.mem_flatMap.mp h) fun i zz=>Ac zz fun hi h=>?_
 refine ex1 (List.mem_map.mp h) fun j zz=>Ac zz fun hj h=>?_
 exact ⟨i,j,h.symm,List.mem_range.mp hi,List.mem_range.mp hj⟩
theorem Wu{ls:Nat}{es:List (Key × Val)}{i j:Int}(h:H[ls]?=some (.dict es)):D2 .isin (.tup [.int i,.int j]) (.loc ls) H=some (inD es (.tup [.int i,.int j])):=by
 have e:D2 .isin (.tup [.int i,.int j]) (.loc ls) H=inV (.tup [.int i,.int j]) (.loc ls) H:=rfl
 rw [e]
 unfold inV
 simp only [h]
 rfl
theorem Kl{α:Type}{l:List α}{k:Nat}{x:α}(h:l[k]?=some x):l.take (k+1)=l.take k++[x]:=by
 rw [List.take_add_one,h];rfl
theorem Iw{o r c lg b s ls:Nat}{g:List (List Val)}{es:List (Key × Val)}(hr:r<=30)(hc:c<=30)(L:LandAt H o r c lg b s ls g es):Wp (Af T_06 (d+2) 27 [.loc o]) H (fun v H'=>∃ m,v=.loc m/\H.length<=m/\Ext H H'/\H'[m]?=some (.list ((cells r c).filter (inD es)))) NoE:=by
 have hlid:lid=16777216:=rfl
 refine ex1 L.inst fun fs zz=>Ep zz fun h0 h1 h2 h3 h4=>?_
 rw [At (g:=Wj) rfl rfl,Wj]
 simp only [List.map_cons,List.map_nil,List.replicate_zero,List.cons_append,List.nil_append,↓Ak,↓Bt,↓Bd]
 refine Ms ?_
 simp only [↓Ax,↓Ah,↓Dq,↓A2,↓Ag,↓Aq,List.cons_append,List.nil_append]
 rw [C7 h0 h1,C7 h0 h2]
 refine (Om hr hc).then ?_
 rintro v K ⟨rfl,e⟩
 rw [e];clear e K
 have e0:Ext H (H++[HObj.list (cells r c)]):=⟨_,rfl⟩
 rw [B9 (Cf (Au H _))]
 refine Jl (fun k out K=>K=H++[.list (cells r c)]/\out=((cells r c).take k).filter (inD es)) ⟨rfl,rfl⟩ ?_ ?_ ?_
 · rintro k out K ⟨rfl,_⟩;exact Cj (Au H _)
 · rintro k x out K hx ⟨rfl,rfl⟩
   refine ex2 (M3 (zF hx)) fun i j zz=>Ap zz fun zr2 _ _=>?_;subst zr2
   refine wp_step ?_
   simp only [↓Bf,↓A2,↓Ao,↓Ag,↓Dq,↓Ai]
   rw [C7 (e0.get h0) h4,B9 (Wu (e0.get L.sinks))]
   simp only [true_and]
   rw [Kl hx,List.filter_append]
   refine Dj ?_ ?_
   · intro q
     rw [List.filter_cons_of_pos q];rfl
   · intro q
     rw [List.filter_cons_of_neg (by rw [q];exact Bool.false_ne_true)];rfl
 · rintro zs K ⟨rfl,rfl⟩
   have tl:(cells r c).take (cells r c).length=cells r c:=List.take_length
   refine ⟨?_,_,rfl,by rw [List.length_append];exact o54,e0.new _,?_⟩
   · refine zA (List.length_filter_le _ _) ?_
     rw [tl,Hz]
     have:=Nat.mul_le_mul hr hc
     exact Aq4 hlid this
   · rw [Au,tl]
theorem Jm{o r c lg b s ls i j:Nat}{g:List (List Val)}{es:List (Key × Val)}(hi:i < r)(hj:j < c)(L:LandAt H o r c lg b s ls g es):Wp (Af T_06 (d+3) 24 [.loc o,.tup [.int (i:Int),.int (j:Int)]]) H (fun v H'=>v=.none/\H'=H) NoE:=by
 refine ex1 L.inst fun fs zz=>Ep zz fun h0 h1 h2 h3 h4=>?_
 rw [At (g:=Wg) rfl rfl,Wg]
 refine Gw (fun H'=>H'=H) ?_ ?_
 · simp only [↓Dk,↓Ax,↓Ah,↓Dq,↓A2,List.map_cons,List.map_nil,List.replicate_zero,List.cons_append,List.nil_append,↓Aq,↓Ao,↓Ag]
   rw [C7 h0 h1,C7 h0 h2,Zn (by exact P9) (by exact Aac hi) (by exact P9) (by exact Aac hj)]
   simp only [↓Ai,Bool.not_true,and_self]
 · rintro H' rfl
   rw [Cb];exact ⟨rfl,rfl⟩
theorem Jn{o i j:Nat}{fs:List (Nat × Val)}{P:Hp->Prop}(h0:H[o]?=some (.inst 7 fs))(h:Wp (Af T_06 d 24 [.loc o,.tup [.int (i:Int),.int (j:Int)]]) H (fun v H'=>v=.none/\H'=H) NoE)(p:P H){Γ:Env'}(g0:Γ[0]?=some (some (.loc o)))(g1:Γ[1]?=some (some (.tup [.int (i:Int),.int (j:Int)]))) :
 wpE T_06 (Af T_06 d) (.umeth (.var 0) 1 (.cons (.var 1) .nil)) Γ H (fun _ H'=>P H') NoE:=by
 rw [Bx,A2,Eh,g0]
 show Wp (Cu T_06 (.loc o) 1) H _ _
 rw [Fe h0 (show T_06.meth 7 1=some 24 from rfl),Ah,A2,Eh,g1]
 show wpEs _ _ _ _ _ _ _
 rw [Aq]
 exact h.then fun v H' e=>e.2▸p
theorem Abj{o r c lg b s ls i j:Nat}{g:List (List Val)}{es:List (Key × Val)}{w:List Val}{x:Val}(hi:i < r)(hj:j < c)(L:LandAt H o r c lg b s ls g es)(hw:g[i]?=some w)(hx:w[j]?=some x) :
 Wp (Af T_06 (d+4) 25 [.loc o,.tup [.int (i:Int),.int (j:Int)]]) H (fun v H'=>v=x/\H'=H) NoE:=by
 refine ex1 L.inst fun fs zz=>Ep zz fun h0 h1 h2 h3 h4=>?_
 rw [At (g:=Wh) rfl rfl,Wh]
 refine Dx (fun H'=>H'=H) (Jn (P:=fun K=>K=H) h0 (Jm hi hj L) rfl rfl rfl) ?_
 rintro H' rfl
 simp only [↓Ak,↓Bt,↓Bd,↓A7,↓Dq,↓A2,List.map_cons,List.map_nil,List.replicate_zero,List.cons_append,List.nil_append,↓A3,↓Ao,↓Ag,↓Fc,↓Fb]
 rw [C7 h0 h3,Cz L.grid.top (L.grid.item (List.getElem?_eq_some_iff.mp hw).1),Cz (L.grid.row i w hw) hx]
 exact ⟨rfl,rfl⟩
theorem Ls{o r c lg b s ls i j:Nat}{g:List (List Val)}{es:List (Key × Val)}{w:List Val}{n:Int}(hi:i < r)(hj:j < c)(L:LandAt H o r c lg b s ls g es)(hw:g[i]?=some w)(hx:w[j]?=some (.int n))(he:es.length < lid) :
 Wp (Af T_06 (d+4) 26 [.loc o,.tup [.int (i:Int),.int (j:Int)]]) H (fun v H'=>v=.none/\H'=H.set ls (.dict (Id es ((i:Int),(j:Int)) (.bool true)))) NoE:=by
 refine ex1 L.inst fun fs zz=>Ep zz fun h0 h1 h2 h3 h4=>?_
 rw [At (g:=Wi) rfl rfl,Wi]
 refine Dx (fun H'=>H'=H) (Jn (P:=fun K=>K=H) h0 (Jm hi hj L) rfl rfl rfl) ?_
 rintro H' rfl
 refine Gw (fun K=>K=H') ?_ ?_
 · simp only [↓Bf,↓A7,↓Dq,↓A2,List.map_cons,List.map_nil,List.replicate_zero,List.cons_append,List.nil_append,↓A3,↓E9,↓Ao,↓Ag,↓Fc,↓Fb]
   rw [C7 h0 h3,Cz L.grid.top (L.grid.item (List.getElem?_eq_some_iff.mp hw).1),Cz (L.grid.row i w hw) hx]
   simp only [↓Ci,and_self]
 rintro K rfl
 simp only [↓Ak,↓Cd,↓Il,↓Dq,↓A2,List.map_cons,List.map_nil,List.replicate_zero,List.cons_append,List.nil_append,↓Cb,true_and,↓Ao,↓Ag]
 rw [C7 h0 h4]
 refine Wp.of_eq (a:=()) (H':=K.set ls (.dict (Id es ((i:Int),(j:Int)) (.bool true)))) ?_ rfl
 unfold A4
 simp only [L.sinks]
 exact if_pos he
end
end Mine.Internal.Pure
namespace Mine.Internal.Pure
open PySem Pile
noncomputable def ent(l:Int)(k:Key):Val:=.tup [.int l,.tup [.int k.1,.int k.2]]
theorem Wv{l l':Int}{k k':Key}(h:ent l k=ent l' k'):l=l'/\k=k':=by
 obtain ⟨a,b⟩:=k
 obtain ⟨c,d⟩:=k'
 unfold ent at h
 injection h with h
 injection h with h1 h2
 injection h1 with h1
 injection h2 with h2 _
 injection h2 with h2
 injection h2 with h2 h3
 injection h3 with h3 _
 injection h2 with h2
 injection h3 with h3
 exact ⟨h1,Prod.ext h2 h3⟩
theorem Ww(l:Int)(k:Key):DC (ent l k):=⟨l,k.1,k.2,rfl⟩
noncomputable def mx(a b:Int):Int:=if b > a then b else a
theorem Aim(a b:Int):a<=mx a b:=by
 unfold mx;by_cases q:b > a
 · rw [if_pos q];exact Int.le_of_lt q
 · rw [if_neg q];exact Int.le_refl _
theorem Ain(a b:Int):b<=mx a b:=by
 unfold mx;by_cases q:b > a
 · rw [if_pos q];exact Int.le_refl _
 · rw [if_neg q];exact Int.not_lt.mp q
theorem Agi{a b c:Int}(h1:a<=c)(h2:b<=c):mx a b<=c:=by
 unfold mx;by_cases q:b > a
 · rw [if_pos q];exact h2
 · rw [if_neg q];exact h1
theorem Ad2(a:Int){b c:Int}(h:b<=c):mx a b<=mx a c:=Agi (Aim a c) (Int.le_trans h (Ain a c))
noncomputable def P3(i j:Int):List Key:=[(i - 1,j),(i,j - 1),(i,j+1),(i+1,j)]
noncomputable def Adj(k q:Key):Prop:=q∈P3 k.1 k.2
theorem Adj.symm{k q:Key}(h:Adj k q):Adj q k:=by
 obtain ⟨i,j⟩:=k
 have h:q∈[(i - 1,j),(i,j - 1),(i,j+1),(i+1,j)]:=h
 rcases List.mem_cons.mp h with rfl | h
 · exact .tail _ (.tail _ (.tail _ (List.mem_singleton.mpr (by rw [Int.sub_add_cancel]))))
 rcases List.mem_cons.mp h with rfl | h
 · exact .tail _ (.tail _ (List.mem_cons.mpr (.inl (by rw [Int.sub_add_cancel]))))
 rcases List.mem_cons.mp h with rfl | h
 · exact .tail _ (List.mem_cons.mpr (.inl (by rw [Int.add_sub_cancel])))
 cases List.mem_singleton.mp h
 exact List.mem_cons.mpr (.inl (by rw [Int.add_sub_cancel]))
inductive Rc(h:Key->Option Int)(D:Key->Prop):Key->Int->Prop
 | drain {k:Key} {a:Int}:D k->h k=some a->Rc h D k a
 | step {p q:Key} {f a:Int}:Rc h D p f->Adj p q->h q=some a->Rc h D q (mx a f)
theorem Rc.hi{h:Key->Option Int}{D:Key->Prop}{k:Key}{f:Int}(x:Rc h D k f):∃ a,h k=some a/\a<=f:=by
 cases x with
 | drain d e=>exact ⟨_,e,Int.le_refl _⟩
 | step r n e=>exact ⟨_,e,Aim _ _⟩
theorem Rc.mono{h:Key->Option Int}{D D':Key->Prop}(i:∀ k,D k->D' k){k:Key}{f:Int}(x:Rc h D k f):Rc h D' k f:=by
 induction x with
 | drain d e=>exact .drain (i _ d) e
 | step r n e ih=>exact .step ih n e
structure Lv(h:Key->Option Int)(D:Key->Prop)(F:Key->Option Int):Prop where
 snd:∀ k f,F k=some f->Rc h D k f
 low:∀ k f,Rc h D k f->∃ f',F k=some f'/\f'<=f
theorem Ta{xs:List Val}{v:Val}(h:xs.Nodup)(n:¬v∈xs):(xs++[v]).Nodup:=by
 rw [List.nodup_append]
 refine ⟨h,by simp,fun a ha b hb e=>?_⟩
 cases List.mem_singleton.mp hb
 exact n (e▸ha)
noncomputable def upd(F:Key->Option Int)(q:Key)(v:Int)(k:Key):Option Int:=if k=q then some v else F k
theorem Ei(F:Key->Option Int)(q:Key)(v:Int):upd F q v q=some v:=if_pos rfl
theorem Lu(F:Key->Option Int){q k:Key}(v:Int)(h:k≠q):upd F q v k=F k:=if_neg h
theorem Abk{α:Type}{f g:α->Nat}(le:∀ q,f q<=g q):∀ (l:List α),(l.map f).sum<=(l.map g).sum
 | []=>zI _
 | x :: l=>by rw [List.map_cons,List.map_cons,List.sum_cons,List.sum_cons];exact Nat.add_le_add (le x) (Abk le l)
theorem Wx{α:Type}{f g:α->Nat}(le:∀ q,f q<=g q){k:α}(lt:f k < g k):∀ (l:List α),k∈l->(l.map f).sum < (l.map g).sum
 | x :: l,h=>by
  rw [List.map_cons,List.map_cons,List.sum_cons,List.sum_cons]
  rcases List.mem_cons.mp h with rfl | h
  · exact Nat.add_lt_add_of_lt_of_le lt (Abk le l)
  · exact Nat.add_lt_add_of_le_of_lt (le x) (Wx le lt l h)
theorem H9{α:Type}{f:α->Nat}{n:Nat}(h:∀ q,f q<=n):∀ (l:List α),(l.map f).sum<=l.length * n
 | []=>Nat.zero_le _
 | x :: l=>by
  rw [List.map_cons,List.sum_cons,List.length_cons,Nat.succ_mul,Nat.add_comm]
  exact Nat.add_le_add (H9 h l) (h x)
noncomputable def below(h:Key->Option Int)(f:Int)(q:Key):Nat:=match h q with
 | some a=>if a < f then 1 else 0
 | none=>0
theorem Ro(h:Key->Option Int)(f:Int)(q:Key):below h f q<=1:=by
 unfold below
 cases h q with
 | none=>exact Nat.zero_le _
 | some a =>
  dsimp only
  by_cases c:a < f
  · rw [if_pos c];exact zI _
  · rw [if_neg c];exact Nat.zero_le _
theorem Tb{h:Key->Option Int}{f f':Int}(l:f<=f')(q:Key):below h f q<=below h f' q:=by
 unfold below
 cases h q with
 | none=>exact zI _
 | some a =>
  dsimp only
  by_cases c:a < f
  · rw [if_pos c,if_pos (by exact Aq5 c l)];exact zI _
  · rw [if_neg c];exact Nat.zero_le _
noncomputable def rnk(h:Key->Option Int)(ks:List Key):Option Int->Nat
 | some f=>(ks.map (below h f)).sum
 | none=>ks.length+1
theorem Agj(h:Key->Option Int)(ks:List Key)(o:Option Int):rnk h ks o<=ks.length+1:=by
 cases o with
 | none=>exact zI _
 | some f =>
  have:=H9 (Ro h f) ks
  show (ks.map (below h f)).sum<=_
  exact Aq6 this
theorem Agk{h:Key->Option Int}{ks:List Key}{v:Int}{o:Option Int}(new:∀ f,o=some f->v < f)(is:∃ q∈ks,h q=some v):rnk h ks (some v) < rnk h ks o:=by
 cases o with
 | none =>
  have:=H9 (Ro h v) ks
  show (ks.map (below h v)).sum < ks.length+1
  exact Aq7 this
 | some f =>
  refine ex1 is fun q zz=>Ac zz fun hq e=>?_
  have l:=new f rfl
  refine Wx (Tb (Int.le_of_lt l)) (k:=q) ?_ ks hq
  unfold below
  rw [e]
  dsimp only
  rw [if_neg (Int.lt_irrefl v),if_pos l];exact Nat.zero_lt_one
noncomputable def mu(h:Key->Option Int)(ks:List Key)(F:Key->Option Int):Nat:=(ks.map fun k=>rnk h ks (F k)).sum
theorem Aio(h:Key->Option Int)(ks:List Key)(F:Key->Option Int):mu h ks F<=ks.length * (ks.length+1):=H9 (fun k=>Agj h ks (F k)) ks
theorem Agl{h:Key->Option Int}{ks:List Key}{F:Key->Option Int}{k:Key}{v:Int}(hk:k∈ks)(new:∀ f,F k=some f->v < f)(is:∃ q∈ks,h q=some v):mu h ks (upd F k v) < mu h ks F:=by
 have lt:=Agk (ks:=ks) new is
 refine Wx (fun q=>?_) (k:=k) ?_ ks hk
 · by_cases e:q=k
   · rw [e,Ei];exact zL lt
   · rw [Lu _ _ e];exact zI _
 · rw [Ei];exact lt
theorem Rc.isH{h:Key->Option Int}{D:Key->Prop}{k:Key}{f:Int}(x:Rc h D k f):∃ q,h q=some f:=by
 induction x with
 | drain d e=>exact ⟨_,e⟩
 | @step p q f a r n e ih =>
  unfold mx
  by_cases c:f > a
  · rw [if_pos c];exact ih
  · rw [if_neg c];exact ⟨_,e⟩
structure Fl(h:Key->Option Int)(D:Key->Prop)(O:Key->Key->Prop)(F:Key->Option Int)(xs:List Val):Prop where
 ents:∀ x∈xs,∃ l k f,x=ent l k/\F k=some f
 drain:∀ k a,D k->h k=some a->∃ f,F k=some f/\f<=a
 snd:∀ k f,F k=some f->Rc h D k f
 near:∀ p fp,F p=some fp->ent fp p∈xs\/∀ q,Adj p q->¬O p q->∀ a,h q=some a->∃ fq,F q=some fq/\fq<=mx a fp
section
variable{h:Key->Option Int}{D:Key->Prop}{O O':Key->Key->Prop}{F:Key->Option Int}{xs:List Val}
theorem Fl.perm{ys:List Val}(x:Fl h D O F xs)(p:ys.Perm xs):Fl h D O F ys :=
 ⟨fun y hy=>x.ents y (p.mem_iff.mp hy),x.drain,x.snd,fun k f hf=>(x.near k f hf).imp p.mem_iff.mpr id⟩
theorem Fl.start:Fl h (fun _=>False) O (fun _=>none) []:=⟨fun y hy=>(nomatch hy),fun k a hk=>hk.elim,fun k f hf=>(nomatch hf),fun p fp hf=>nomatch hf⟩
theorem M4{q k:Key}{a f:Int}(hf:upd F q a k=some f):(k=q/\f=a)\/(k≠q/\F k=some f):=by
 by_cases e:k=q
 · rw [e,Ei] at hf;cases hf;exact .inl ⟨e,rfl⟩
 · rw [Lu _ _ e] at hf;exact .inr ⟨e,hf⟩
theorem Oo{q k:Key}{v f:Int}(new:∀ f,F q=some f->v<=f)(hf:F k=some f):∃ f',upd F q v k=some f'/\f'<=f:=by
 by_cases e:k=q
 · rw [e,Ei];exact ⟨v,rfl,new f (e▸hf)⟩
 · rw [Lu _ _ e];exact ⟨f,hf,Int.le_refl _⟩
theorem Fl.held(x:Fl h D O F xs){q:Key}{v:Int}(new:∀ f,F q=some f->v<=f):∀ y∈xs++[ent v q],∃ l k f,y=ent l k/\upd F q v k=some f:=fun y hy=>by
 rcases List.mem_append.mp hy with hy | hy
 · refine ex3 (x.ents y hy) fun l k f zz=>Ac zz fun e hf=>?_
   refine ex1 (Oo new hf) fun f' zz=>Ac zz fun hf' _=>?_
   exact ⟨l,k,f',e,hf'⟩
 · exact ⟨v,q,v,List.mem_singleton.mp hy,Ei _ _ _⟩
theorem Fl.opened{q:Key}{a:Int}(x:Fl h D O F xs)(hF:F q=none)(ha:h q=some a):Fl h (fun k=>D k\/k=q) O (upd F q a) (xs++[ent a q]):=by
 have new:∀ f,F q=some f->a<=f:=fun f e=>by rw [hF] at e;exact nomatch e
 refine ⟨x.held new,fun k b hk hb=>?_,fun k f hf=>?_,fun p fp hf=>?_⟩
 · rcases hk with hk | hk
   · refine ex1 (x.drain k b hk hb) fun f zz=>Ac zz fun hf le=>?_
     refine ex1 (Oo new hf) fun f' zz=>Ac zz fun hf' le'=>?_
     exact ⟨f',hf',Int.le_trans le' le⟩
   · rw [hk] at hb ⊢
     rw [ha] at hb;cases hb
     exact ⟨a,Ei _ _ _,Int.le_refl _⟩
 · rcases M4 hf with ⟨e1,e2⟩ | ⟨_,hf⟩
   · rw [e1,e2];exact .drain (.inr rfl) ha
   · exact (x.snd k f hf).mono fun _ d=>.inl d
 · rcases M4 hf with ⟨e1,e2⟩ | ⟨_,hf⟩
   · rw [e1,e2];exact .inl (List.mem_append.mpr (.inr (List.mem_singleton.mpr rfl)))
   · refine (x.near p fp hf).imp (fun m=>List.mem_append.mpr (.inl m)) fun n q' hq' ho b hb=>?_
     refine ex1 (n q' hq' ho b hb) fun fq zz=>Ac zz fun h1 h2=>?_
     refine ex1 (Oo new h1) fun f' zz=>Ac zz fun hf' le'=>?_
     exact ⟨f',hf',Int.le_trans le' h2⟩
theorem Fl.stale{L:Int}{p:Key}{t:List Val}(x:Fl h D O F (ent L p :: t))(hF:F p≠some L):Fl h D O F t:=by
 refine ⟨fun y hy=>x.ents y (.tail _ hy),x.drain,x.snd,fun k f hf=>(x.near k f hf).imp (fun m=>?_) id⟩
 rcases List.mem_cons.mp m with e | e
 · obtain ⟨rfl,rfl⟩:=Wv e
   exact absurd hf hF
 · exact e
theorem Fl.pop{L:Int}{p:Key}{t:List Val}(x:Fl h D (fun _ _=>False) F (ent L p :: t)):Fl h D (fun p' _=>p'=p) F t:=by
 refine ⟨fun y hy=>x.ents y (.tail _ hy),x.drain,x.snd,fun k f hf=>?_⟩
 rcases x.near k f hf with m | n
 · rcases List.mem_cons.mp m with e | e
   · exact .inr fun q _ ho=>absurd (Wv e).2 ho
   · exact .inl e
 · exact .inr fun q hq _=>n q hq id
theorem Fl.skip{L:Int}{p q:Key}(x:Fl h D O F xs)(hO:∀ p' q',O p' q'->O' p' q'\/(p'=p/\q'=q))(hF:F p=some L)(hq:∀ a,h q=some a->∃ fq,F q=some fq/\fq<=mx a L):Fl h D O' F xs:=by
 refine ⟨x.ents,x.drain,x.snd,fun p' fp hf=>(x.near p' fp hf).imp id fun n q' hq' ho a ha=>?_⟩
 by_cases o:O p' q'
 · obtain ⟨rfl,rfl⟩:=(hO p' q' o).resolve_left ho
   rw [hF] at hf;cases hf
   exact hq a ha
 · exact n q' hq' o a ha
theorem Fl.put{L a:Int}{p q:Key}(x:Fl h D O F xs)(hO:∀ p' q',O p' q'->O' p' q'\/(p'=p/\q'=q))(hF:F p=some L)(hA:Adj p q)(ha:h q=some a)(new:∀ f,F q=some f->mx a L < f) :
 Fl h D O' (upd F q (mx a L)) (xs++[ent (mx a L) q]):=by
 have nw:∀ f,F q=some f->mx a L<=f:=fun f e=>Int.le_of_lt (new f e)
 refine ⟨x.held nw,fun k b hk hb=>?_,fun k f hf=>?_,fun p' fp hf=>?_⟩
 · refine ex1 (x.drain k b hk hb) fun f zz=>Ac zz fun hf le=>?_
   refine ex1 (Oo nw hf) fun f' zz=>Ac zz fun hf' le'=>?_
   exact ⟨f',hf',Int.le_trans le' le⟩
 · rcases M4 hf with ⟨e1,e2⟩ | ⟨_,hf⟩
   · rw [e1,e2];exact .step (x.snd p L hF) hA ha
   · exact x.snd k f hf
 · rcases M4 hf with ⟨e1,e2⟩ | ⟨_,hg⟩
   · rw [e1,e2];exact .inl (List.mem_append.mpr (.inr (List.mem_singleton.mpr rfl)))
   · refine (x.near p' fp hg).imp (fun m=>List.mem_append.mpr (.inl m)) fun n q' hq' ho b hb=>?_
     by_cases o:O p' q'
     · obtain ⟨rfl,rfl⟩:=(hO p' q' o).resolve_left ho
       rw [hF] at hg;cases hg
       rw [ha] at hb;cases hb
       exact ⟨_,Ei _ _ _,Int.le_refl _⟩
     · refine ex1 (n q' hq' o b hb) fun fq zz=>Ac zz fun h1 h2=>?_
       refine ex1 (Oo nw h1) fun f' zz=>Ac zz fun hf' le'=>?_
       exact ⟨f',hf',Int.le_trans le' h2⟩
theorem Fl.fin(x:Fl h D (fun _ _=>False) F []):Lv h D F:=by
 refine ⟨x.snd,fun k f r=>?_⟩
 induction r with
 | drain d e=>exact x.drain _ _ d e
 | @step p q f a r n e ih =>
  refine ex1 ih fun f' zz=>Ac zz fun h1 h2=>?_
  refine ex1 (((x.near p f' h1).resolve_left List.not_mem_nil) q n id a e) fun fq zz=>Ac zz fun h3 h4=>?_
  exact ⟨fq,h3,Int.le_trans h4 (Ad2 a h2)⟩
end
end Mine.Internal.Pure
namespace Mine.Internal.Pure
open PySem
noncomputable def P4:List (Nat × Nat):=[(1,30),(30,1),(5,5),(2,12),(2,30),(30,2),(6,7),(12,11)]
section
variable{T:Tab}{Φ:Funs}{Γ:Env'}{H:Hp}{Q:Val->Hp->Prop}{E:Nat->Hp->Prop}{d:Nat}{QS:Env'->Hp->Prop}{R:Val->Hp->Prop}{ES:Nat->Env'->Hp->Prop}
theorem Zs(c:Int):∃ r k:Nat,(OkS r k/\r * k<=132)/\∀ (H:Hp),Wp (Af T_06 (d+1) 10 [.int c]) H (fun v H'=>v=.tup [.int r,.int k]/\Ext H H') NoE:=by
 by_cases q:Int.fmod (Int.fdiv c 20) 8=1
 · refine ex1 (Cc (Int.fdiv c 160) 8 (by decide)) fun j zz=>Ac zz fun hj lj=>?_
   have lj':j < P4.length:=lj
   refine ⟨(P4[j]).1,(P4[j]).2,?_,fun H=>?_⟩
   · have:∀ p∈P4,OkS p.1 p.2/\p.1 * p.2<=132:=by unfold OkS P4;decide
     exact this _ (List.getElem_mem lj')
   · rw [At (g:=Oh) rfl rfl,Oh]
     simp only [List.map_cons,List.map_nil,List.replicate_zero,List.cons_append,List.nil_append,↓Ak,↓Bm,↓Bf,↓Bv,↓A2,↓Ag,↓A3,↓F7,↓F8,↓S6,↓Ai,↓Bt,↓Bd,↓A7,↓En,↓Ah,↓Hw,↓Aq,↓Cb,↓Gv]
     refine ⟨by decide,by decide,?_⟩
     rw [C6 q]
     refine ⟨by decide,by decide,?_⟩
     rw [show Int.fmod (Int.fdiv c 160) 8=(j:Int) from hj]
     refine Iu (Au H _) (by exact Aq8 lj) (v:=.tup [.int ((P4[j]).1:Nat),.int ((P4[j]).2:Nat)]) ?_ ⟨rfl,⟨_,rfl⟩⟩
     match j,lj with
     | 0,_=>rfl
     | 1,_=>rfl
     | 2,_=>rfl
     | 3,_=>rfl
     | 4,_=>rfl
     | 5,_=>rfl
     | 6,_=>rfl
     | 7,_=>rfl
 · refine ex1 (Cc c 4 (by decide)) fun i zz=>Ac zz fun hi li=>?_
   refine ex1 (Cc (Int.fdiv c 4) 5 (by decide)) fun j zz=>Ac zz fun hj lj=>?_
   refine ⟨1+i,1+j,⟨by unfold OkS;exact Aq9 li lj,by have:=Nat.mul_le_mul (show 1+i<=4 by exact Ara li) (show 1+j<=5 by exact Arb lj);exact Arc this⟩,fun H=>?_⟩
   rw [At (g:=Oh) rfl rfl,Oh]
   simp only [List.map_cons,List.map_nil,List.replicate_zero,List.cons_append,List.nil_append,↓Ak,↓Bm,↓Bf,↓Bv,↓A2,↓Ag,↓A3,↓F7,↓F8,↓S6,↓Ai,↓Bt,↓Bd,↓A7,↓En,↓Ah,↓Hw,↓Aq,↓Cb,↓Gv]
   refine ⟨by decide,by decide,?_⟩
   rw [Ca q]
   refine ⟨by decide,by decide,by decide,?_,Ext.refl H⟩
   rw [show Int.fmod c 4=(i:Int) from hi,show Int.fmod (Int.fdiv c 4) 5=(j:Int) from hj]
   rfl
theorem Ad3{ns:List Int}{r c k:Nat}{x2 x3:Val}{a5:Option Val}(hS:OkS r c)(hk:k < r):wpE T_06 (Af T_06 (d+2)) (.comp (.call 12 (.cons (.var 0) (.cons (.bin .add (.bin .mul (.var 4) (.sub (.var 1) (.int 1))) (.var 6)) .nil))) (.bf .range (.cons (.sub (.var 1) (.int 1)) .nil)) .none) [some (.script ns),some (.tup [.int (r:Int),.int (c:Int)]),some x2,some x3,some (.int (k:Int)),a5] H
 (fun v K=>∃ nums:List Val,v=.loc H.length/\K=H++[.list nums]/\nums.length=c/\∀ x∈nums,∃ n:Int,x=.int n) NoE:=by
 have hlid:lid=16777216:=rfl
 unfold OkS at hS
 refine Ol (xs:=Mv c) (src:=none) (fun _ v=>∃ n:Int,v=.int n) (Agg (by exact Ard hS) ⟨rfl,rfl⟩) rfl (by rw [M2];exact Are hS hlid) ?_ ?_
 · intro j x hx
   obtain ⟨hr0,lj⟩:=Rn hx;refine Eq.symm hr0▸?_
   obtain ⟨n,hn⟩:=S9 (d:=d) ns (k * c+j) (by have:=Nat.mul_le_mul (show k<=29 by exact Ajm hS hk) (show c<=30 by exact Ahf hS);exact Arf hS lj this)
   show wpE _ _ _ [some (.script ns),some (.tup [.int (r:Int),.int (c:Int)]),some x2,some x3,some (.int (k:Int)),a5,some (.int (j:Int))] _ _ _
   simp only [↓Ax,↓Ah,↓Aq,↓A2,↓Bv,↓A7,↓A3,↓Di,↓Ag,↓Ao,↓Fc,↓I7,↓Gv]
   refine ⟨by rw [Ga (by exact Ajn hS hk)];rfl,?_⟩
   rw [show (k:Int) * (c:Int)+(j:Int)=((k * c+j:Nat):Int) by rw [Int.natCast_add,Int.natCast_mul]]
   exact (hn H).then fun v H' h=>⟨⟨n,h.1⟩,h.2⟩
 · intro ys hl hp
   refine ⟨ys,rfl,rfl,hl.trans (M2 c),fun x hx=>?_⟩
   obtain ⟨j,hj⟩:=List.mem_iff_getElem?.mp hx
   exact hp j x hj
theorem Agm{nums:List Val}{c l kind:Nat}{xs:List Val}{x0 x1 x4:Val}(hl:H[l]?=some (.list xs))(xl:xs.length < 1000)(cl:c<=1000)(ln:nums.length=c)(hn:∀ x∈nums,∃ n:Int,x=.int n)
 (q:∀ w:List Val,w.length=c->(∀ v∈w,HV v)->QS [some x0,some x1,some (.int (kind:Int)),some (.loc l),some x4,some (.loc H.length)] (((H++[HObj.list nums])++[HObj.list w]).set l (HObj.list (xs++[Val.loc (H.length+1)])))) :
 wpSs T_06 (Af T_06 (d+2)) zT12 [some x0,some x1,some (.int (kind:Int)),some (.loc l),some x4,some (.loc H.length)] (H++[HObj.list nums]) QS R NoX:=by
 have hlid:lid=16777216:=rfl
 have e1:Ext H (H++[HObj.list nums]):=⟨_,rfl⟩
 refine Dx (fun K=>QS [some x0,some x1,some (.int (kind:Int)),some (.loc l),some x4,some (.loc H.length)] K) ?_ (fun K h=>h)
 refine Dd rfl (e1.get hl) ?_
 refine Ol (xs:=nums) (src:=some H.length) (fun _ v=>HV v) ⟨rfl,Cf (Au H _)⟩ (Cj (Au H _)) (by exact Arg hlid ln cl) ?_ ?_
 · intro j x hx
   obtain ⟨n,rfl⟩:=hn x (zF hx)
   refine ex1 (Agf (d:=d+1) n kind (by exact P9)) fun v zz=>Ac zz fun hv hw=>?_
   exact (hw _).then fun w H' h=>⟨h.1▸hv,h.2⟩
 · intro ys hl' hp
   refine ⟨_,Ext.get ⟨_,rfl⟩ (e1.get hl),by exact Ajo xl hlid,?_⟩
   have:(H++[HObj.list nums]).length=H.length+1:=by rw [List.length_append];rfl
   rw [this]
   refine q ys (hl'.trans ln) fun x hx=>?_
   obtain ⟨j,hj⟩:=List.mem_iff_getElem?.mp hx
   exact hp j x hj
theorem Ad4{K:Hp}{l c k:Nat}{g:List (List Val)}{w nums:List Val}(og:OkG g k c)(G:GAt K l (l+2) 2 g)(hK:K.length=l+1+2 * k)(lw:w.length=c)(hw:∀ v∈w,HV v) :
 OkG (g++[w]) (k+1) c/\GAt (((K++[HObj.list nums])++[HObj.list w]).set l (HObj.list ((List.range g.length).map (fun i=>Val.loc (l+2+2 * i))++[Val.loc (K.length+1)]))) l (l+2) 2 (g++[w]):=by
 have lK:(K++[HObj.list nums]).length=K.length+1:=by rw [List.length_append];rfl
 have e2:Ext K (K++[HObj.list nums]++[HObj.list w]):=⟨[HObj.list nums,HObj.list w],by rw [List.append_assoc];rfl⟩
 refine ⟨⟨by rw [List.length_append,og.len];rfl,fun i z h=>?_⟩,⟨?_,fun i z h=>?_⟩⟩
 · rcases Wt h with h | ⟨_,rfl⟩
   · exact og.row i z h
   · exact ⟨lw,hw⟩
 · rw [Bz _ (e2.get G.top),List.length_append,List.length_singleton,List.range_succ,List.map_append,List.map_singleton,og.len,hK,show l+1+2 * k+1=l+2+2 * k by exact Arh]
 · rcases Wt h with h | ⟨rfl,rfl⟩
   · exact Ar _ (by exact Ajp) (e2.get (G.row i z h))
   · refine Ar _ (by exact Ajp) ?_
     have:=Au (K++[HObj.list nums]) (.list z)
     rw [lK,hK] at this
     rw [og.len,show l+2+2 * k=l+1+2 * k+1 by exact Ari]
     exact this
inductive GInv(x0 x1 x2:Val)(l c:Nat):Nat->Env'->Hp->Prop
 | mk {k:Nat} {K:Hp} (g:List (List Val)) (a b:Option Val) (og:OkG g k c) (G:GAt K l (l+2) 2 g) (hK:K.length=l+1+2 * k):GInv x0 x1 x2 l c k [some x0,some x1,some x2,some (.loc l),a,b] K
theorem Zt(ns:List Int):Wp (Af T_06 (d+3) 13 [.script ns]) H (fun v H'=>∃ r c g l,v=.loc l/\OkS r c/\r * c<=132/\OkG g r c/\GAt H' l (l+2) 2 g) NoE:=by
 refine Ae fun G kG=>?_
 refine ex2 (Zs (d:=d+1) (Kj ns 0)) fun r c zz=>Ac zz fun zn2 hsz=>?_;obtain ⟨hS,hrc⟩:=zn2
 refine kG ?_
 have hS':=hS
 unfold OkS at hS'
 rw [At (g:=Aa1) rfl rfl]
 refine Ay (fun v H'=>v=.tup [.int r,.int c]/\Ext H H') ?_ ?_
 · show Wp (Af T_06 (d+2) 8 [.script ns,.int ((0:Nat):Int)]) H _ _
   rw [Gk]
   exact hsz H
 clear hsz
 rintro _ H1 ⟨rfl,e1⟩
 refine Ay (fun v K=>∃ k:Nat,v=.int k/\H1=K) ?_ ?_
 · show Wp (Af T_06 (d+2) 8 [.script ns,.int ((1:Nat):Int)]) H1 _ _
   rw [Gk]
   refine ex1 (Cc (Kj ns 1) 4 (by decide)) fun k zz=>Ac zz fun hk _=>?_
   exact ⟨by decide,k,congrArg Val.int hk,rfl⟩
 rintro _ _ ⟨kind,rfl,rfl⟩
 refine Ay (fun v K=>v=.loc H1.length/\K=H1++[.list []]) ⟨rfl,rfl⟩ ?_
 rintro _ _ ⟨rfl,rfl⟩
 obtain ⟨I,hI⟩:=Gc (GInv (.script ns) (.tup [.int r,.int c]) (.int kind) H1.length c)
 refine Dt (I r) ?_ ?_
 · refine E1 (n:=r) I ⟨rfl,rfl⟩ ⟨by exact Arj hS',by exact Ark hS'⟩ ((hI _ _ _).mpr (.mk [] _ _ ⟨rfl,fun i w h=>nomatch h⟩ ⟨Au H1 _,fun i w h=>nomatch h⟩ (by rw [List.length_append];rfl))) ?_ (fun Γ K h=>by rw [Int.toNat_natCast] at h;exact h)
   intro k Γ K hk h
   obtain ⟨g,a,b,og,G,hK⟩:=(hI _ _ _).mp h
   refine Ay _ (Ad3 hS (by exact Aep hk)) ?_
   intro _ K1 zz
   refine ex1 zz fun nums zz=>Cl zz fun zr1 zr2 ln hn=>?_;subst zr1;subst zr2
   refine Agm G.top (by rw [List.length_map,List.length_range,og.len];exact Arl hk hS') (by exact Arm hS' ln) ln hn fun w lw hw=>(hI _ _ _).mpr ?_
   obtain ⟨og',G'⟩:=Ad4 (nums:=nums) og G hK lw hw
   exact .mk _ _ _ og' G' (by rw [List.length_set,List.length_append,List.length_append,hK];show _+1+1=_;exact Arn)
 intro Γ K h
 refine Ae fun G kG=>?_
 obtain ⟨g,a,b,og,G,_⟩:=(hI _ _ _).mp h
 refine kG ?_
 exact ⟨r,c,g,_,rfl,hS,hrc,og,G⟩
theorem Zu{a b:Nat}{xs:List Val}{ds:List PyData}(ha:H[a]?=some (.list xs))(hb:H[b]?=some (.list xs))(hd:Jd (A6 H 5) xs=some ds)(hq:PyData.eqv (.list ds) (.list ds)=true):Hb H (.loc a) (.loc b)=some true:=by
 have e:∀ c,H[c]?=some (.list xs)->A6 H Fi (.loc c)=some (.list ds):=fun c hc=>by
  have:A6 H (5+1) (.loc c)=(match H[c]? with | some (.list xs)=>(Jd (A6 H 5) xs).map .list | _=>none):=rfl
  show A6 H (5+1) (.loc c)=_
  rw [this,hc]
  show (Jd (A6 H 5) xs).map PyData.list=_
  rw [hd];rfl
 unfold Hb
 rw [e a ha,e b hb]
 show some (PyData.eqv _ _)=_
 rw [hq]
theorem Akh{l b s r c:Nat}{g:List (List Val)}(hS:OkS r c)(og:OkG g r c)(G:GAt H l b s g):∃ w x,g[0]?=some w/\w[0]?=some x/\HV x/\w.length=c/\((List.range g.length).map fun i=>Val.loc (b+s * i))[0]?=some (.loc b)/\H[b]?=some (.list w):=by
 unfold OkS at hS
 have lt:0 < g.length:=by rw [og.len];exact Agw hS
 have hg:g[0]?=some g[0]:=List.getElem?_eq_getElem lt
 obtain ⟨lw,hw⟩:=og.row 0 _ hg
 have lt':0 < g[0].length:=by exact Aro hS lt lw
 have hx:g[0][0]?=some g[0][0]:=List.getElem?_eq_getElem lt'
 exact ⟨g[0],g[0][0],hg,hx,hw _ (zF hx),lw,G.item lt,G.row 0 _ hg⟩
theorem LandAt.sink{o r c lg b s ls:Nat}{g:List (List Val)}{es es':List (Key × Val)}(L:LandAt H o r c lg b s ls g es):LandAt (H.set ls (.dict es')) o r c lg b s ls g es':=by
 refine ex1 L.inst fun fs zz=>Ac zz fun h0 h=>?_
 have hs:=L.sinks
 exact ⟨⟨fs,Ar _ (fun q=>by rw [q,h0] at hs;cases hs) h0,h⟩,L.grid.other _ (fun q=>by have:=L.grid.top;rw [<- q,hs] at this;cases this) (fun i hi q=>by have:=L.grid.row i _ (List.getElem?_eq_getElem hi);rw [<- q,hs] at this;cases this),Bz _ hs⟩
theorem Jo{l b s r c:Nat}{g:List (List Val)}(og:OkG g r c):((List.range g.length).map fun i=>Val.loc (b+s * i)).length=r:=by rw [List.length_map,List.length_range,og.len]
end
end Mine.Internal.Pure
namespace Mine.Internal.Pure
open PySem Pile
theorem M5(es:List (Key × Val))(k:Key)(v:Val)(k':Key):Fj (Id es k v) k'=if k'=k then some v else Fj es k':=by
 unfold Fj
 induction es with
 | nil =>
  show List.lookup k' [(k,v)]=_
  rw [List.lookup_cons]
  by_cases q:k'=k
  · rw [if_pos q,q,beq_self_eq_true]
  · rw [if_neg q,beq_eq_false_iff_ne.mpr q]
 | cons e es ih =>
  obtain ⟨a,b⟩:=e
  have st:Id ((a,b) :: es) k v=if a=k then (a,v) :: es else (a,b) :: Id es k v:=rfl
  rw [st]
  by_cases q:a=k
  · refine q▸?_
    rw [if_pos rfl,List.lookup_cons,List.lookup_cons]
    by_cases c:k'=a
    · rw [if_pos c,c,beq_self_eq_true]
    · rw [if_neg c,beq_eq_false_iff_ne.mpr c]
  · rw [if_neg q,List.lookup_cons,List.lookup_cons,ih]
    by_cases c:k'=a
    · rw [c,beq_self_eq_true]
      exact (if_neg q).symm
    · rw [beq_eq_false_iff_ne.mpr c]
theorem Ia(es:List (Key × Val))(k:Key)(v:Val):(Id es k v).length<=es.length+1:=by
 induction es with
 | nil=>exact zI _
 | cons e es ih =>
  obtain ⟨a,b⟩:=e
  have st:Id ((a,b) :: es) k v=if a=k then (a,v) :: es else (a,b) :: Id es k v:=rfl
  rw [st]
  by_cases q:a=k
  · rw [if_pos q];exact Nat.le_succ _
  · rw [if_neg q];exact Nat.succ_le_succ ih
noncomputable def Has(es:List (Key × Val))(F:Key->Option Int):Prop:=∀ k,Fj es k=(F k).map Val.int
theorem Has.put{es:List (Key × Val)}{F:Key->Option Int}(h:Has es F)(q:Key)(v:Int):Has (Id es q (.int v)) (upd F q v):=by
 intro k
 rw [M5]
 by_cases c:k=q
 · rw [if_pos c,c,Ei];rfl
 · rw [if_neg c,Lu _ _ c];exact h k
section
variable{T:Tab}{Φ:Funs}{Γ:Env'}{H:Hp}{Q:Val->Hp->Prop}{E:Nat->Hp->Prop}{d l:Nat}{QS:Env'->Hp->Prop}{R:Val->Hp->Prop}{ES:Nat->Env'->Hp->Prop}
theorem M6{l:Nat}{es:List (Key × Val)}{i j:Int}{v:Val}(h:H[l]?=some (.dict es))(hv:Fj es (i,j)=some v):Wp (Dm (.loc l) (.tup [.int i,.int j])) H Q E=Q v H:=by
 have:Dm (.loc l) (.tup [.int i,.int j]) H=.ok v H:=by
  unfold Dm;rw [Db]
  simp only [h]
  rw [show (Es (.tup [.int i,.int j])).bind (Fj es)=Fj es (i,j) from rfl,hv]
 unfold Wp;rw [this]
theorem M7{l:Nat}{es:List (Key × Val)}{i j:Int}{v:Val}{Q:Unit->Hp->Prop}(h:H[l]?=some (.dict es))(hl:es.length < lid):Wp (A4 (.loc l) (.tup [.int i,.int j]) v) H Q E=Q () (H.set l (.dict (Id es (i,j) v))):=by
 have:A4 (.loc l) (.tup [.int i,.int j]) v H=.ok () (H.set l (.dict (Id es (i,j) v))):=by
  unfold A4;simp only [h]
  exact if_pos hl
 unfold Wp;rw [this]
theorem Ix{l:Nat}{es:List (Key × Val)}{i j:Int}(h:H[l]?=some (.dict es)):D2 .notin (.tup [.int i,.int j]) (.loc l) H=some (!(Fj es (i,j)).isSome):=by
 have e:D2 .notin (.tup [.int i,.int j]) (.loc l) H=Aad true (inV (.tup [.int i,.int j]) (.loc l) H):=rfl
 rw [e]
 unfold inV
 simp only [h]
 rfl
noncomputable def inR(r c:Nat)(k:Key):Bool:=decide (0<=k.1/\k.1 < r/\0<=k.2/\k.2 < c)
theorem Ha{r c:Nat}{k:Key}(h:inR r c k=true):∃ i j:Nat,k=((i:Int),(j:Int))/\i < r/\j < c:=by
 obtain ⟨a,b⟩:=k
 have h:0<=a/\a < r/\0<=b/\b < c:=of_decide_eq_true h
 exact ⟨a.toNat,b.toNat,Prod.ext (show a=(a.toNat:Int) by exact Arp h) (show b=(b.toNat:Int) by exact Arq h),by exact Arr h,by exact Ars h⟩
theorem Abl{r c i j:Nat}(hi:i < r)(hj:j < c):inR r c ((i:Int),(j:Int))=true:=decide_eq_true (show 0<=(i:Int)/\(i:Int) < r/\0<=(j:Int)/\(j:Int) < c by exact Art hi hj)
noncomputable def Aki(g:List (List Val))(k:Key):Option Val:=(g[k.1.toNat]?).bind fun w=>w[k.2.toNat]?
noncomputable def Att:Option Val->Option Int
 | some (.int i)=>some i
 | _=>none
noncomputable def hgt(g:List (List Val))(r c:Nat)(k:Key):Option Int:=if inR r c k=true then Att (Aki g k) else none
theorem I8{g:List (List Val)}{r c:Nat}{k:Key}{a:Int}(h:hgt g r c k=some a):inR r c k=true:=by
 unfold hgt at h
 by_cases q:inR r c k=true
 · exact q
 · rw [if_neg q] at h;cases h
theorem Ib{g:List (List Val)}{r c i j:Nat}(og:OkG g r c)(hi:i < r)(hj:j < c):∃ w x,g[i]?=some w/\w[j]?=some x/\((x=.none/\hgt g r c ((i:Int),(j:Int))=none)\/∃ n,x=.int n/\0<=n/\hgt g r c ((i:Int),(j:Int))=some n):=by
 refine Ae fun G kG=>?_
 obtain ⟨w,hw⟩:∃ w,g[i]?=some w:=⟨_,List.getElem?_eq_getElem (by rw [og.len];exact hi)⟩
 obtain ⟨lw,hv⟩:=og.row i _ hw
 obtain ⟨x,hx⟩:∃ x,w[j]?=some x:=⟨_,List.getElem?_eq_getElem (by rw [lw];exact hj)⟩
 refine kG ?_
 have e:Aki g ((i:Int),(j:Int))=some x:=by
  show (g[((i:Int)).toNat]?).bind (fun w=>w[((j:Int)).toNat]?)=_
  rw [Int.toNat_natCast,Int.toNat_natCast,hw]
  exact hx
 refine ⟨w,x,hw,hx,?_⟩
 unfold hgt
 rw [if_pos (Abl hi hj),e]
 rcases hv _ (zF hx) with q | ⟨n,q,h0,_⟩
 · rw [q];exact .inl ⟨rfl,rfl⟩
 · rw [q];exact .inr ⟨n,rfl,h0,rfl⟩
noncomputable def bes(r c:Nat)(i j:Int):List Key:=(P3 i j).filter (inR r c)
theorem Wy{i j:Int}{q:Key}:q∈P3 i j↔Adj (i,j) q:=Iff.rfl
theorem M8{r c:Nat}{i j:Int}{q:Key}:q∈bes r c i j↔(Adj (i,j) q/\inR r c q=true):=by
 unfold bes;rw [List.mem_filter,Wy]
theorem Wz(r c:Nat)(i j:Int):(bes r c i j).length<=4:=List.length_filter_le _ _
theorem Iy{x lo hi:Int}:Wp (Af T_06 (d+1) 0 [.int x,.int lo,.int hi]) H Q E=Q (.bool (decide (lo<=x/\x<=hi))) H:=by
 rw [At (g:=Wc) rfl rfl,Wc]
 simp only [List.map_cons,List.map_nil,List.replicate_zero,List.cons_append,List.nil_append,↓Ak,↓Bm,↓Im,↓Dk,↓Dl,↓A2,↓Ag,↓Ez,↓Ai,↓F5,↓Ct,↓D9,↓D8,↓Cb,↓Bt,↓Bd,↓Io,↓Ao,↓Oe]
 by_cases h1:lo<=x
 · rw [C6 h1,show decide (x<=hi)=decide (lo<=x/\x<=hi) from decide_eq_decide.mpr ⟨fun h=>⟨h1,h⟩,fun h=>h.2⟩]
 · rw [Ca h1,show decide (lo<=x/\x<=hi)=false from decide_eq_false fun h=>h1 h.1]
theorem W0{r c:Nat}{i j:Int}:Wp (Af T_06 (d+2) 1 [.int (r:Int),.int (c:Int),.tup [.int i,.int j]]) H Q E=Q (.bool (inR r c (i,j))) H:=by
 rw [At (g:=Wd) rfl rfl,Wd]
 simp only [List.map_cons,List.map_nil,List.replicate_zero,List.cons_append,List.nil_append,↓Ak,↓Bm,↓Im,↓Dk,↓Dl,↓A2,↓Ao,↓Ag,↓E0,↓Ai,↓F5,↓Ct,↓Bf,↓Eb,↓Ah,↓Aq,↓Ey,↓A3,↓S7,↓Cb,↓Bt,↓Bd,↓F6,↓Ax,↓A7,↓Fb,↓Bv,↓Lp,↓Fc,↓Il]
 rw [Iy,Ai]
 have e:∀ b,b=inR r c (i,j)->Q (.bool b) H=Q (.bool (inR r c (i,j))) H:=fun b h=>by rw [h]
 rw [C6 (show (([Val.int i,Val.int j].length:Nat):Int)=2 from rfl)]
 by_cases h1:0<=i/\i<=(r:Int) - 1
 · rw [C6 h1,Iy]
   exact e _ (decide_eq_decide.mpr ⟨fun h=>⟨by exact Ajq h1,by exact Ajr h1,by exact Ajq h,by exact Ajr h⟩,fun h=>⟨by have:=h.2.2.1;assumption,by have:=h.2.2.2;exact Aru h⟩⟩)
 · rw [Ca h1]
   exact e _ (decide_eq_false fun h=>h1 ⟨h.1,by have:=h.2.1;exact Arv h⟩).symm
theorem Km{ks:List Key}{n:Nat}{x:Val}(h:(ks.map Ab)[n]?=some x):∃ q,ks[n]?=some q/\x=Ab q:=by
 rw [List.getElem?_map] at h
 cases e:ks[n]? with
 | none=>rw [e] at h;cases h
 | some q=>rw [e] at h;cases h;exact ⟨q,rfl,rfl⟩
theorem M9{K0:Hp}{it c:ME}{ks:List Key}{p:Key->Bool}{n:Nat}(hn:Γ.length=n)(hl:K0[l]?=some (.list (ks.map Ab)))(kl:ks.length < 1000)(hit:wpE T Φ it Γ H (fun v H'=>v=.loc l/\H'=K0) NoE)
 (ht:∀ q∈ks,wpE T Φ c (Γ++[some (Ab q)]) K0 (fun v H'=>v=.bool (p q)/\H'=K0) NoE) (q:Q (.loc K0.length) (K0++[.list ((ks.filter p).map Ab)])):wpE T Φ (.comp (.var n) it (.some c)) Γ H Q E:=by
 have hlid:lid=16777216:=rfl
 refine Ms (A5 hit ?_)
 rintro v H' ⟨rfl,rfl⟩
 rw [B9 (Cf hl)]
 refine Jl (fun k out K=>K=H'/\out=((ks.take k).filter p).map Ab) ⟨rfl,rfl⟩ ?_ ?_ ?_
 · rintro k out K ⟨hr0,_⟩;refine Eq.symm hr0▸?_;exact Cj hl
 · rintro k x out K hx ⟨rfl,rfl⟩
   refine ex1 (Km hx) fun q zz=>Ac zz fun hq zr2=>?_;subst zr2
   refine wp_step (A5 (ht q (zF hq)) ?_)
   rintro v K' ⟨rfl,rfl⟩
   rw [Ai,Kl hq,List.filter_append,List.map_append]
   refine Dj (fun h=>?_) (fun h=>?_)
   · rw [List.filter_cons_of_pos h,A2,Eh,List.getElem?_append_right (by exact Ag5 hn),hn,Nat.sub_self]
     exact ⟨rfl,rfl⟩
   · rw [List.filter_cons_of_neg (by rw [h];exact Bool.false_ne_true)]
     exact ⟨rfl,rfl⟩
 · rintro zs K ⟨rfl,rfl⟩
   rw [show ks.take (List.map Ab ks).length=ks by rw [List.length_map];exact List.take_length]
   refine ⟨?_,q⟩
   rw [List.length_map]
   have:=List.length_filter_le p ks
   exact Arw kl hlid this
theorem Tc{r c:Nat}{i j:Int}:Wp (Af T_06 (d+3) 2 [.int (r:Int),.int (c:Int),.tup [.int i,.int j]]) H (fun v H'=>∃ m,v=.loc m/\H.length<=m/\Ext H H'/\H'[m]?=some (.list ((bes r c i j).map Ab))) NoE:=by
 rw [At (g:=Adp) rfl rfl,Adp]
 show wpE T_06 (Af T_06 (d+2)) (.comp (.var 6) (.var 5) (.some (.call 1 (.cons (.var 0) (.cons (.var 1) (.cons (.var 6) .nil)))))) [some (.int (r:Int)),some (.int (c:Int)),some (.tup [.int i,.int j]),some (.int i),some (.int j),some (.loc H.length)] (H++[HObj.list ((P3 i j).map Ab)]) _ _
 have e0:Ext H (H++[HObj.list ((P3 i j).map Ab)]):=⟨_,rfl⟩
 refine M9 (l:=H.length) (ks:=P3 i j) (p:=inR r c) rfl (Au H _) (show 4 < 1000 by decide) ⟨rfl,rfl⟩ (fun q _=>?_) ⟨_,rfl,by rw [List.length_append];exact o54,e0.new _,Au _ _⟩
 show Wp (Af T_06 (d+2) 1 [.int (r:Int),.int (c:Int),.tup [.int q.1,.int q.2]]) _ _ _
 rw [W0]
 exact ⟨rfl,rfl⟩
end
structure FS(H K:Hp)(lf lo lp lh:Nat)(es gs:List (Key × Val))(xs:List Val):Prop where
 ext:Ext H K
 bf:H.length<=lf
 bo:H.length<=lo
 bh:H.length<=lh
 ne:lf≠lo
 f:K[lf]?=some (.dict es)
 o:K[lo]?=some (.dict gs)
 p:K[lp]?=some (.inst 8 [(4,.loc lh)])
 h:K[lh]?=some (.list xs)
section
variable{H K:Hp}{lf lo lp lh:Nat}{es gs:List (Key × Val)}{xs:List Val}
theorem FS.more{K':Hp}(x:FS H K lf lo lp lh es gs xs)(e:Ext K K'):FS H K' lf lo lp lh es gs xs:=⟨x.ext.trans e,x.bf,x.bo,x.bh,x.ne,e.get x.f,e.get x.o,e.get x.p,e.get x.h⟩
theorem Bk{K:Hp}{a b:Nat}{o o':HObj}(h:K[a]?=some o)(h':K[b]?=some o')(n:o≠o'):a≠b:=fun e=>n (Option.some.inj (by rw [<- h,<- h',e]))
theorem FS.setF(x:FS H K lf lo lp lh es gs xs)(es':List (Key × Val)):FS H (K.set lf (.dict es')) lf lo lp lh es' gs xs :=
 ⟨x.ext.set x.bf _,x.bf,x.bo,x.bh,x.ne,Bz _ x.f,Ar _ x.ne x.o,Ar _ (Bk x.f x.p (by intro c;cases c)) x.p,Ar _ (Bk x.f x.h (by intro c;cases c)) x.h⟩
theorem FS.setO(x:FS H K lf lo lp lh es gs xs)(gs':List (Key × Val)):FS H (K.set lo (.dict gs')) lf lo lp lh es gs' xs :=
 ⟨x.ext.set x.bo _,x.bf,x.bo,x.bh,x.ne,Ar _ (Ne.symm x.ne) x.f,Bz _ x.o,Ar _ (Bk x.o x.p (by intro c;cases c)) x.p,Ar _ (Bk x.o x.h (by intro c;cases c)) x.h⟩
theorem FS.setH(x:FS H K lf lo lp lh es gs xs)(ys:List Val):FS H (K.set lh (.list ys)) lf lo lp lh es gs ys :=
 ⟨x.ext.set x.bh _,x.bf,x.bo,x.bh,x.ne,Ar _ (Bk x.h x.f (by intro c;cases c)) x.f,Ar _ (Bk x.h x.o (by intro c;cases c)) x.o,Ar _ (Bk x.h x.p (by intro c;cases c)) x.p,Bz _ x.h⟩
theorem FS.only{K':Hp}{ys:List Val}(x:FS H K lf lo lp lh es gs xs)(o:Only lh K K')(h:K'[lh]?=some (.list ys)):FS H K' lf lo lp lh es gs ys :=
 ⟨Abi fun m ob hm=>o.keep m ob (by have t1:=Ce hm;have t2:=x.bh;exact Ajs t1 t2) (x.ext.get hm),x.bf,x.bo,x.bh,x.ne,o.keep _ _ (Bk x.f x.h (by intro c;cases c)) x.f,o.keep _ _ (Bk x.o x.h (by intro c;cases c)) x.o,o.keep _ _ (Bk x.p x.h (by intro c;cases c)) x.p,h⟩
theorem FS.lt(x:FS H K lf lo lp lh es gs xs):lh < K.length:=Ce x.h
end
noncomputable def Fq(r c:Nat):List Key:=(List.range r).flatMap fun (i:Nat)=>(List.range c).map fun (j:Nat)=>((i:Int),(j:Int))
theorem Gl(r c:Nat):(Fq r c).map Ab=cells r c:=by
 unfold Fq cells B4
 rw [List.map_flatMap]
 congr 1
 funext i
 rw [List.map_map];rfl
theorem Ff(r c:Nat):(Fq r c).length=r * c:=by
 rw [<- Hz,<- Gl,List.length_map]
theorem Fg{r c:Nat}{k:Key}:k∈Fq r c↔inR r c k=true:=by
 unfold Fq
 constructor
 · intro h
   refine ex1 (List.mem_flatMap.mp h) fun i zz=>Ac zz fun hi h=>?_
   refine ex1 (List.mem_map.mp h) fun j zz=>Ac zz fun hj zr2=>?_;subst zr2
   exact Abl (List.mem_range.mp hi) (List.mem_range.mp hj)
 · intro h
   refine ex2 (Ha h) fun i j zz=>Ap zz fun zr2 hi hj=>?_;subst zr2
   exact List.mem_flatMap.mpr ⟨i,List.mem_range.mpr hi,List.mem_map.mpr ⟨j,List.mem_range.mpr hj,rfl⟩⟩
theorem Gd{a b:Key}(h:Ab a=Ab b):a=b:=by
 have:Es (Ab a)=Es (Ab b):=by rw [h]
 exact Option.some.inj this
theorem W1(i c:Nat):(B4 i c).Nodup:=by
 induction c with
 | zero=>exact List.nodup_nil
 | succ c ih =>
  rw [Hy]
  refine Ta ih fun h=>?_
  unfold B4 at h
  refine ex1 (List.mem_map.mp h) fun j zz=>Ac zz fun hj e=>?_
  have t0:=Gd (a:=((i:Int),(j:Int))) (b:=((i:Int),(c:Int))) e
  have t1:=(Prod.mk.inj t0).2
  have t2:=List.mem_range.mp hj
  exact Ajt t1 t2
theorem Kn(r c:Nat):(cells r c).Nodup:=by
 induction r with
 | zero=>exact List.nodup_nil
 | succ r ih =>
  rw [Iv,List.nodup_append]
  refine ⟨ih,W1 r c,fun a ha b hb e=>?_⟩
  refine ex2 (M3 ha) fun i j zz=>Ap zz fun zr2 hi _=>?_;subst zr2
  unfold B4 at hb
  refine ex1 (List.mem_map.mp hb) fun j' zz=>Ac zz fun _ zr2=>?_;subst zr2
  have:=Gd (a:=((i:Int),(j:Int))) (b:=((r:Int),(j':Int))) e
  have:=(Prod.mk.inj this).1
  exact Ajt this hi
theorem Zv{α:Type}{l:List α}{n:Nat}{x:α}(h:l.Nodup)(hx:l[n]?=some x):¬x∈l.take n:=by
 intro c
 obtain ⟨m,hm⟩:=List.mem_iff_getElem?.mp c
 have lm:m < n:=by
  have:=(List.getElem?_eq_some_iff.mp hm).1
  rw [List.length_take] at this;exact Arx this
 rw [List.getElem?_take_of_lt lm] at hm
 obtain ⟨l1,e1⟩:=List.getElem?_eq_some_iff.mp hx
 obtain ⟨l2,e2⟩:=List.getElem?_eq_some_iff.mp hm
 have:=(List.getElem_inj (h₀:=l2) (h₁:=l1) h).mp (by rw [e1,e2])
 exact o25 lm this
theorem B5{α:Type}{l:List α}{n:Nat}{x y:α}(h:l[n]?=some x):y∈l.take (n+1)↔(y∈l.take n\/y=x):=by
 rw [Kl h,List.mem_append,List.mem_singleton]
noncomputable def mz(g:List (List Val))(r c:Nat)(F:Key->Option Int):Nat:=mu (hgt g r c) (Fq r c) F
theorem Fl.close{h:Key->Option Int}{D:Key->Prop}{O O':Key->Key->Prop}{F:Key->Option Int}{xs:List Val}(x:Fl h D O F xs)(hc:∀ p q a,O p q->Adj p q->h q=some a->False):Fl h D O' F xs :=
 ⟨x.ents,x.drain,x.snd,fun p fp hf=>(x.near p fp hf).imp id fun n q hq _ a ha=>n q hq (fun o=>hc p q a o hq ha) a ha⟩
theorem Fl.dc{h:Key->Option Int}{D:Key->Prop}{O:Key->Key->Prop}{F:Key->Option Int}{xs:List Val}(x:Fl h D O F xs):∀ y∈xs,DC y:=fun y hy=>by
 refine ex3 (x.ents y hy) fun l k f zz=>Ac zz fun e _=>?_
 rw [e];exact Ww l k
section
variable{H K:Hp}{d:Nat}{QS:Env'->Hp->Prop}{R:Val->Hp->Prop}{o r c lg b s ls lf lo lp lh:Nat}{g:List (List Val)}{es0 es gs:List (Key × Val)}{xs:List Val}{D:Key->Prop}{F:Key->Option Int}{U:List Key}{L m:Int}{x4 x5 x6 x7 x8:Option Val}
theorem Zw{i j:Nat}{p:Key}{v:Int}(x:FS H K lf lo lp lh es gs xs)(dc:∀ y∈xs,DC y)(n1:xs.length < 100000)(n2:es.length < 100000)(n3:gs.length < 100000)
 (q:∀ K' ys,FS H K' lf lo lp lh (Id es ((i:Int),(j:Int)) (.int v)) (Id gs ((i:Int),(j:Int)) (Ab p)) ys->ys.Perm (xs++[ent v ((i:Int),(j:Int))])->(∀ m,m≠lf->m≠lo->m≠lh->K'[m]?=K[m]?)->QS [some (.loc o),some (.loc lf),some (.loc lo),some (.loc lp),some (.tup [.int (i:Int),.int (j:Int)]),some (ent L p),x6,some (.int v)] K') :
 wpSs T_06 (Af T_06 (d+4)) (.cons (.setitem (.var 1) (.var 4) (.var 7)) (.cons (.setitem (.var 2) (.var 4) (.sub (.var 5) (.int 1))) (.cons (.expr (.umeth (.var 3) 6 (.cons (.tup (.cons (.var 7) (.cons (.var 4) .nil))) .nil))) .nil)))
  [some (.loc o),some (.loc lf),some (.loc lo),some (.loc lp),some (.tup [.int (i:Int),.int (j:Int)]),some (ent L p),x6,some (.int v)] K QS R NoX:=by
 have hlid:lid=16777216:=rfl
 have x1:=x.setF (Id es ((i:Int),(j:Int)) (.int v))
 have x2:=x1.setO (Id gs ((i:Int),(j:Int)) (Ab p))
 simp only [↓Ak,↓Cd,↓Gi,↓Cb,↓A2,↓A7,↓A3,↓Bx,↓Ah,↓Aq,↓Hw,↓Di,↓Ag,↓Ao]
 rw [M7 x.f (by exact Aet n2 hlid)]
 show Wp (A4 (.loc lo) (.tup [.int (i:Int),.int (j:Int)]) (Ab p)) _ _ _
 rw [M7 x1.o (by exact Aet n3 hlid),Ki x2.p (show T_06.meth 8 6=some 30 from rfl)]
 refine (Wq (d+3) Mx x2.p x2.h dc (Ww v ((i:Int),(j:Int))) n1).then ?_
 rintro w K' ⟨_,ys,hr0,hp⟩;refine Eq.symm hr0▸?_
 refine q _ ys (x2.setH ys) hp fun m h1 h2 h3=>?_
 rw [List.getElem?_set_ne (Ne.symm h3),List.getElem?_set_ne (Ne.symm h2),List.getElem?_set_ne (Ne.symm h1)]
theorem Ad5{i j:Nat}{a:Int}(x:FS H K lf lo lp lh es gs xs)(hes:Has es F):∃ t:Bool,(t=true->∀ f,F ((i:Int),(j:Int))=some f->a < f)/\(t=false->∃ f,F ((i:Int),(j:Int))=some f/\f<=a) /\
 wpE T_06 (Af T_06 (d+4)) (.or (.cmp .notin (.var 4) (.var 1)) (.cmp .lt (.var 7) (.sub (.var 1) (.var 4)))) [x4,some (.loc lf),x5,x6,some (.tup [.int (i:Int),.int (j:Int)]),x7,x8,some (.int a)] K (fun v K'=>v=.bool t/\K'=K) NoE:=by
 have hk:=hes ((i:Int),(j:Int))
 cases hf:F ((i:Int),(j:Int)) with
 | none =>
  rw [hf] at hk
  refine ⟨true,(fun _ f h=>nomatch h),(fun h=>nomatch h),?_⟩
  simp only [↓Im,↓Bf,↓A2,↓A7,↓Di,↓Ag,↓Ao]
  rw [B9 (Ix x.f),hk]
  exact ⟨trivial,trivial⟩
 | some f =>
  rw [hf] at hk
  refine ⟨decide (a < f),fun h f' h'=>?_,fun h=>⟨f,rfl,?_⟩,?_⟩
  · cases h';exact of_decide_eq_true h
  · have:=of_decide_eq_false h;exact Ary this
  · simp only [↓Im,↓Bf,↓A2,↓A7,↓Di,↓Ag,↓Ao]
    rw [B9 (Ix x.f),hk]
    show Wp (Dm (.loc lf) (.tup [.int (i:Int),.int (j:Int)])) K _ _
    rw [M6 x.f hk]
    exact ⟨rfl,rfl⟩
theorem Aip{O O':Key->Key->Prop}{p q:Key}(og:OkG g r c)(LA:LandAt H o r c lg b s ls g es0)(x:FS H K lf lo lp lh es gs xs)(hes:Has es F)(fl:Fl (hgt g r c) D O F xs)(hO:∀ p' q',O p' q'->O' p' q'\/(p'=p/\q'=q))(hF:F p=some L)(hq:inR r c q=true)(hA:Adj p q)(n1:xs.length < 100000)(n2:es.length < 100000)(n3:gs.length < 100000)
 (k:∀ K' es' gs' xs' F' y4 y6 y7,FS H K' lf lo lp lh es' gs' xs'->Has es' F'->Fl (hgt g r c) D O' F' xs'->F' p=some L->5 * mz g r c F'+xs'.length<=5 * mz g r c F+xs.length->es'.length+mz g r c F'<=es.length+mz g r c F->gs'.length+mz g r c F'<=gs.length+mz g r c F->(∀ m,m≠lf->m≠lo->m≠lh->K'[m]?=K[m]?)->QS [some (.loc o),some (.loc lf),some (.loc lo),some (.loc lp),y4,some (ent L p),y6,y7] K') :
 wpSs T_06 (Af T_06 (d+4)) zT1
  [some (.loc o),some (.loc lf),some (.loc lo),some (.loc lp),some (Ab q),some (ent L p),x6,x7] K QS R NoX:=by
 refine ex2 (Ha hq) fun i j zz=>Ap zz fun zr2 hi hj=>?_;subst zr2
 have LK:=LA.ext x.ext
 refine ex2 (Ib og hi hj) fun w y zz=>Ap zz fun hw hy hcase=>?_
 have st:wpE T_06 (Af T_06 (d+4)) (.umeth (.var 0) 2 (.cons (.var 4) .nil)) [some (.loc o),some (.loc lf),some (.loc lo),some (.loc lp),some (Ab ((i:Int),(j:Int))),some (ent L p),x6,x7] K (fun v K'=>v=y/\K'=K) NoE:=by
  refine ex1 LK.inst fun fs zz=>Ac zz fun f0 _=>?_
  simp only [↓Bx,↓A2,↓Ah,↓Aq,↓Di,↓Ag]
  rw [Fe f0 (show T_06.meth 7 2=some 25 from rfl)]
  exact Abj hi hj LK hw hy
 refine Ay _ st ?_
 clear st LK LA
 rintro v K' ⟨rfl,rfl⟩
 rcases hcase with ⟨rfl,hn⟩ | ⟨a,rfl,_,ha⟩
 · exact k _ _ _ _ _ _ _ _ x hes (fl.skip hO hF (fun a ha=>by rw [hn] at ha;cases ha)) hF (zI _) (zI _) (zI _) fun _ _ _ _=>rfl
 · refine Adn (fun K2=>K2=K') ⟨rfl,rfl⟩ ?_
   rintro K2 rfl
   refine Ay (fun v K'=>v=.int (mx a L)/\K'=K2) ⟨rfl,rfl⟩ ?_
   rintro v K' ⟨rfl,rfl⟩
   refine ex1 (Ad5 (d:=d) (i:=i) (j:=j) (a:=mx a L) (x4:=some (.loc o)) (x5:=some (.loc lo)) (x6:=some (.loc lp)) (x7:=some (ent L p)) (x8:=some (.int a)) x hes) fun t zz=>Ap zz fun ht hf hc=>?_
   refine A5 hc ?_
   clear hc
   rintro v K2 ⟨rfl,rfl⟩
   refine Dj (fun h=>?_) (fun h=>?_)
   · have new:=ht h
     have lt:=Agl (h:=hgt g r c) (ks:=Fq r c) (F:=F) (k:=((i:Int),(j:Int))) (v:=mx a L) (Fg.mpr hq) new (by
      obtain ⟨z,hz⟩:=(Rc.step (fl.snd p L hF) hA ha).isH
      exact ⟨z,Fg.mpr (I8 hz),hz⟩)
     refine Zw x fl.dc n1 n2 n3 fun K3 ys x' hperm keep=>k _ _ _ _ _ _ _ _ x' (hes.put _ _) ((fl.put hO hF hA ha new).perm hperm) ?_ ?_ ?_ ?_ keep
     · by_cases e:p=((i:Int),(j:Int))
       · have t1:=new L (by rw [<- e];exact hF)
         have t2:=Ain a L
         exact (Arz t1 t2).elim
       · rw [Lu _ _ e];exact hF
     · rw [hperm.length_eq,List.length_append]
       show 5 * mu (hgt g r c) (Fq r c) _+(xs.length+1)<=5 * mu (hgt g r c) (Fq r c) F+xs.length
       exact Ar0 lt
     · have:=Ia es ((i:Int),(j:Int)) (.int (mx a L))
       show _+mu (hgt g r c) (Fq r c) _<=_+mu (hgt g r c) (Fq r c) F
       exact Aju lt this
     · have:=Ia gs ((i:Int),(j:Int)) (Ab p)
       show _+mu (hgt g r c) (Fq r c) _<=_+mu (hgt g r c) (Fq r c) F
       exact Aju lt this
   · refine ex1 (hf h) fun f zz=>Ac zz fun h1 h2=>?_
     exact k _ _ _ _ _ _ _ _ x hes (fl.skip hO hF (fun a' ha'=>by rw [ha] at ha';cases ha';exact ⟨f,h1,h2⟩)) hF (zI _) (zI _) (zI _) fun _ _ _ _=>rfl
end
theorem Fl.imp{h:Key->Option Int}{D:Key->Prop}{O O':Key->Key->Prop}{F:Key->Option Int}{xs:List Val}(x:Fl h D O F xs)(hc:∀ p q,O p q->O' p q):Fl h D O' F xs :=
 ⟨x.ents,x.drain,x.snd,fun p fp hf=>(x.near p fp hf).imp id fun n q hq ho a ha=>n q hq (fun c=>ho (hc p q c)) a ha⟩
inductive EInv(H:Hp)(o lf lo lp lh:Nat)(A:List Key->(Key->Option Int)->List Val->List (Key × Val)->Prop)(p:Key)(L:Int)(bs:List Key)(z:(Key->Option Int)->Nat)(a1 a2 a3 m':Nat):Nat->Env'->Hp->Prop
 | mk {j:Nat} {K:Hp} (es gs:List (Key × Val)) (xs:List Val) (F:Key->Option Int) (y4 y6 y7:Option Val) (x:FS H K lf lo lp lh es gs xs) (hes:Has es F) (fl:A (bs.take j) F xs gs) (hF:F p=some L) (b1:5 * z F+xs.length<=a1) (b2:es.length+z F<=a2) (b3:gs.length+z F<=a3) (gm:K[m']?=some (.list (bs.map Ab))) (hj:j<=4) :
  EInv H o lf lo lp lh A p L bs z a1 a2 a3 m' j [some (.loc o),some (.loc lf),some (.loc lo),some (.loc lp),y4,some (ent L p),y6,y7] K
inductive WInv(H:Hp)(o lf lo lp lh:Nat)(A:(Key->Option Int)->List Val->Prop)(z:(Key->Option Int)->Nat):Nat->Env'->Hp->Prop
 | mk {n:Nat} {K:Hp} (es gs:List (Key × Val)) (xs:List Val) (F:Key->Option Int) (y4 y5 y6 y7:Option Val) (x:FS H K lf lo lp lh es gs xs) (hes:Has es F) (fl:A F xs) (hn:5 * z F+xs.length=n) (b1:n < 90000) (b2:es.length+z F < 90000) (b3:gs.length+z F < 90000) :
  WInv H o lf lo lp lh A z n [some (.loc o),some (.loc lf),some (.loc lo),some (.loc lp),y4,y5,y6,y7] K
section
variable{H K:Hp}{d:Nat}{QS:Env'->Hp->Prop}{R:Val->Hp->Prop}{o r c lg b s ls lf lo lp lh:Nat}{g:List (List Val)}{es0 es gs:List (Key × Val)}{xs:List Val}{D:Key->Prop}{F:Key->Option Int}{U:List Key}{L m:Int}{x4 x5 x6 x7:Option Val}
set_option maxHeartbeats 1000000 in
theorem Ad6{p:Key}(og:OkG g r c)(LA:LandAt H o r c lg b s ls g es0)(x:FS H K lf lo lp lh es gs xs)(hes:Has es F)(fl:Fl (hgt g r c) D (fun p' _=>p'=p) F xs)(hF:F p=some L)(n1:5 * mz g r c F+xs.length < 90000)(n2:es.length+mz g r c F < 90000)(n3:gs.length+mz g r c F < 90000)
 (q:∀ K' es' gs' xs' F' y4 y6 y7,FS H K' lf lo lp lh es' gs' xs'->Has es' F'->Fl (hgt g r c) D (fun _ _=>False) F' xs'->5 * mz g r c F'+xs'.length<=5 * mz g r c F+xs.length->es'.length+mz g r c F'<=es.length+mz g r c F->gs'.length+mz g r c F'<=gs.length+mz g r c F->QS [some (.loc o),some (.loc lf),some (.loc lo),some (.loc lp),y4,some (ent L p),y6,y7] K') :
 wpS T_06 (Af T_06 (d+4)) (.each 4 (.call 2 (.cons (.attr (.var 0) 0) (.cons (.attr (.var 0) 1) (.cons (.sub (.var 5) (.int 1)) .nil)))) zT1)
  [some (.loc o),some (.loc lf),some (.loc lo),some (.loc lp),x4,some (ent L p),x6,x7] K QS R NoX:=by
 refine Ae fun G kG=>?_
 obtain ⟨p1,p2⟩:=p
 have LK:=LA.ext x.ext
 refine ex1 LK.inst fun fs zz=>Cl zz fun f0 f1 f2 _=>?_
 refine kG ?_
 apply D1
 simp only [↓Ax,↓Ah,↓Dq,↓A2,↓Di,↓Ag,↓A7,↓A3,↓Aq,↓Ao]
 rw [C7 f0 f1,C7 f0 f2]
 show Wp (Af T_06 (d+4) 2 [.int (r:Int),.int (c:Int),.tup [.int p1,.int p2]]) K _ _
 refine (Tc (d:=d+1)).then ?_
 intro v K1 zz
 refine ex1 zz fun m' zz=>Cl zz fun zr1 hm e1 gm=>?_;subst zr1
 rw [B9 (Cf gm)]
 have x1:=x.more e1
 have blen:=Wz r c p1 p2
 have lh':=x.lt
 have lf':=Ce x.f
 have lo':=Ce x.o
 obtain ⟨I,hI⟩:=Gc (EInv H o lf lo lp lh (fun ks F' xs' gs'=>Fl (hgt g r c) D (fun p' q'=>p'=(p1,p2)/\¬q'∈ks) F' xs') (p1,p2) L (bes r c p1 p2) (mz g r c) (5 * mz g r c F+xs.length) (es.length+mz g r c F) (gs.length+mz g r c F) m')
 show WpS (Fm (chk (some m') ((bes r c p1 p2).map Ab)) (Rw 4) _ ((bes r c p1 p2).map Ab) _ _) _ _ _
 refine Cn I ((hI _ _ _).mpr (.mk es gs xs F x4 x6 x7 x1 hes (fl.imp (fun p q h=>⟨h,fun c=>nomatch c⟩)) hF (zI _) (zI _) (zI _) gm (Nat.zero_le _))) ?_ ?_ ?_
 · clear x1 x hes fl
   intro Γ K' h
   refine Ae fun G kG=>?_
   obtain ⟨es',gs',xs',F',y4,y6,y7,x',hes',fl',_,b1,b2,b3,_,hj⟩:=(hI _ _ _).mp h
   refine kG ?_
   rw [List.length_map] at fl'
   refine q K' es' gs' xs' F' y4 y6 y7 x' hes' (fl'.close ?_) b1 b2 b3
   rintro p q a ⟨rfl,hn⟩ hA ha
   rw [List.take_length] at hn
   exact hn (M8.mpr ⟨hA,I8 ha⟩)
 · intro j Γ K' _ h
   obtain ⟨es',gs',xs',F',y4,y6,y7,_,_,_,_,_,_,_,gm',_⟩:=(hI _ _ _).mp h
   exact Cj gm'
 · clear x1 x hes fl hF q
   intro j z Γ K' hz h
   obtain ⟨es',gs',xs',F',y4,y6,y7,x',hes',fl',hF',b1,b2,b3,gm',hj⟩:=(hI _ _ _).mp h
   refine ex1 (Km hz) fun q zz=>Ac zz fun hq hr2=>?_;refine Eq.symm hr2▸?_
   obtain ⟨hA,hin⟩:=M8.mp (zF hq)
   have lj:=(List.getElem?_eq_some_iff.mp hq).1
   refine ⟨_,rfl,Aip og LA x' hes' fl' (O':=fun p' q'=>p'=(p1,p2)/\¬q'∈(bes r c p1 p2).take (j+1)) (p:=(p1,p2)) (q:=q) ?_ hF' hin hA (by exact Ar1 n1 b1) (by exact Ajv n2 b2) (by exact Ajv n3 b3) ?_⟩
   · rintro p' q' ⟨rfl,hn⟩
     by_cases e:q'=q
     · exact .inr ⟨rfl,e⟩
     · exact .inl ⟨rfl,fun h=>((B5 hq).mp h).elim hn e⟩
   · intro K2 es2 gs2 xs2 F2 z4 z6 z7 x2 hes2 fl2 hF2 c1 c2 c3 keep
     exact (hI _ _ _).mpr (.mk es2 gs2 xs2 F2 z4 z6 z7 x2 hes2 fl2 hF2 (zC c1 b1) (zC c2 b2) (zC c3 b3) ((keep m' (Nat.ne_of_gt (zD lf' hm)) (Nat.ne_of_gt (zD lo' hm)) (Nat.ne_of_gt (zD lh' hm))).trans gm') (zC lj blen))
set_option maxHeartbeats 1000000 in
theorem Ad7(og:OkG g r c)(LA:LandAt H o r c lg b s ls g es0)(x:FS H K lf lo lp lh es gs xs)(hes:Has es F)(fl:Fl (hgt g r c) D (fun _ _=>False) F xs)(n1:5 * mz g r c F+xs.length < 90000)(n2:es.length+mz g r c F < 90000)(n3:gs.length+mz g r c F < 90000)
 (q:∀ K' es' gs' F' y4 y5 y6 y7,FS H K' lf lo lp lh es' gs' []->Has es' F'->Lv (hgt g r c) D F'->QS [some (.loc o),some (.loc lf),some (.loc lo),some (.loc lp),y4,y5,y6,y7] K') :
 wpS T_06 (Af T_06 (d+4)) (.loop (.cmp .gt (.umeth (.var 3) 10 .nil) (.int 0)) zT0)
  [some (.loc o),some (.loc lf),some (.loc lo),some (.loc lp),x4,x5,x6,x7] K QS R NoX:=by
 obtain ⟨I,hI⟩:=Gc (WInv H o lf lo lp lh (fun F' xs'=>Fl (hgt g r c) D (fun _ _=>False) F' xs') (mz g r c))
 refine Mz I (n:=5 * mz g r c F+xs.length) (Nat.lt_trans n1 (by decide)) ((hI _ _ _).mpr (.mk es gs xs F x4 x5 x6 x7 x hes fl rfl n1 n2 n3)) ?_
 clear x hes fl n1 n2 n3
 intro n Γ K' h
 obtain ⟨es',gs',xs',F',y4,y5,y6,y7,x',hes',fl',hn,b1,b2,b3⟩:=(hI _ _ _).mp h
 rw [Bf]
 simp only [↓Bx,↓A2,↓Di,↓Ag,↓Aq,↓A3]
 rw [Ki x'.p (show T_06.meth 8 10=some 34 from rfl)]
 refine (Zm (d+3) x'.p x'.h).then ?_
 rintro v K2 ⟨e,rfl⟩
 rw [e,V8]
 clear e
 refine Hu ?_ ?_
 · intro hpos
   refine Ay (fun v K2=>∃ t ys,xs'=v :: t/\FS H K2 lf lo lp lh es' gs' ys/\ys.Perm t) ?_ ?_
   · simp only [↓Bx,↓A2,↓Di,↓Ag,↓Aq,↓A3]
     rw [Ki x'.p (show T_06.meth 8 8=some 32 from rfl)]
     refine (Zl (d+2) Mx (Bk x'.p x'.h (by intro c;cases c)) x'.p x'.h fl'.dc (by exact Ar2 hn b1) (fun c=>by rw [c] at hpos;exact absurd hpos (by decide))).then ?_
     intro v K2 zz
     refine ex2 zz fun t ys zz=>Cl zz fun e on hy hp=>?_
     exact ⟨t,ys,e,x'.only on hy,hp⟩
   clear x'
   intro v K2 zz
   refine ex2 zz fun t ys zz=>Ap zz fun zr2 x2 hperm=>?_;subst zr2
   refine ex3 (fl'.ents v (.head _)) fun L zn1 f zz=>Ac zz fun zr3 hf=>?_;obtain ⟨p1,p2⟩:=zn1;subst zr3
   have hk:=hes' (p1,p2)
   rw [hf] at hk
   have lt:(ent L (p1,p2) :: t).length=t.length+1:=rfl
   have ly:=hperm.length_eq
   have cond:wpE T_06 (Af T_06 (d+4)) (.cmp .eq (.sub (.var 1) (.sub (.var 5) (.int 1))) (.sub (.var 5) (.int 0))) [some (.loc o),some (.loc lf),some (.loc lo),some (.loc lp),y4,some (.tup [.int L,.tup [.int p1,.int p2]]),y6,y7] K2 (fun v K3=>v=.bool (decide (f=L))/\K3=K2) NoE:=by
    simp only [↓Bf,↓A7,↓A2,↓Di,↓Ag,↓Ao,↓A3,↓Fc,↓Fb]
    rw [M6 x2.f hk]
    exact ⟨rfl,rfl⟩
   refine A5 cond ?_
   clear cond hk
   rintro v K3 ⟨rfl,rfl⟩
   refine Hu ?_ ?_
   · rintro rfl
     refine Ad6 (p:=(p1,p2)) og LA x2 hes' (fl'.pop.perm hperm) hf (by exact Ajw hn b1 lt ly) b2 b3 ?_
     intro K3 es3 gs3 xs3 F3 z4 z6 z7 x3 hes3 fl3 c1 c2 c3
     exact ⟨_,by exact Ar3 hn c1 lt ly,(hI _ _ _).mpr (.mk es3 gs3 xs3 F3 z4 _ z6 z7 x3 hes3 fl3 rfl (by exact Ar4 hn c1 b1 lt ly) (by exact Ajx b2 c2) (by exact Ajx b3 c3))⟩
   · intro hne
     exact ⟨_,by exact Ar5 hn lt ly,(hI _ _ _).mpr (.mk es' gs' ys F' y4 _ y6 y7 x2 hes' ((fl'.stale (fun c=>hne (by rw [hf] at c;cases c;rfl))).perm hperm) rfl (by exact Ajw hn b1 lt ly) b2 b3)⟩
 · intro hz
   have:xs'=[]:=List.length_eq_zero_iff.mp (by exact Ar6 hn hz)
   subst this
   exact q K' es' gs' F' y4 y5 y6 y7 x' hes' fl'.fin
end
theorem Fl.drainsAre{h:Key->Option Int}{D D':Key->Prop}{O:Key->Key->Prop}{F:Key->Option Int}{xs:List Val}(x:Fl h D O F xs)(hc:∀ k,D k↔D' k):Fl h D' O F xs:=by
 have:D=D':=funext fun k=>propext (hc k)
 rw [<- this];exact x
inductive NInv(H:Hp)(o lf lo lp lh:Nat)(A:List Val->(Key->Option Int)->List Val->List (Key × Val)->Prop)(ds:List Val)(m':Nat):Nat->Env'->Hp->Prop
 | mk {n:Nat} {K:Hp} (es gs:List (Key × Val)) (xs:List Val) (F:Key->Option Int) (y4:Option Val) (x:FS H K lf lo lp lh es gs xs) (hes:Has es F) (fl:A (ds.take n) F xs gs) (only:∀ k f,F k=some f->Ab k∈ds.take n) (b1:xs.length<=n) (b2:es.length<=n) (b3:gs.length<=n) (gm:K[m']?=some (.list ds)) :
  NInv H o lf lo lp lh A ds m' n [some (.loc o),some (.loc lf),some (.loc lo),some (.loc lp),y4,none,none,none] K
section
variable{H K:Hp}{d:Nat}{QS:Env'->Hp->Prop}{R:Val->Hp->Prop}{o r c lg b s ls lf lo lp lh:Nat}{g:List (List Val)}{es0 es gs:List (Key × Val)}{xs:List Val}{D:Key->Prop}{F:Key->Option Int}{U:List Key}{L m:Int}{x4 x5 x6 x7:Option Val}
theorem Agn{i j:Nat}{a:Int}{w:List Val}(LA:LandAt K o r c lg b s ls g es0)(x:FS H K lf lo lp lh es gs xs)(hi:i < r)(hj:j < c)(hw:g[i]?=some w)(hy:w[j]?=some (.int a))(dc:∀ y∈xs,DC y)(n1:xs.length < 100000)(n2:es.length < 100000)(n3:gs.length < 100000)
 (q:∀ K' ys,FS H K' lf lo lp lh (Id es ((i:Int),(j:Int)) (.int a)) (Id gs ((i:Int),(j:Int)) .none) ys->ys.Perm (xs++[ent a ((i:Int),(j:Int))])->(∀ m,m≠lf->m≠lo->m≠lh->K'[m]?=K[m]?)->QS [some (.loc o),some (.loc lf),some (.loc lo),some (.loc lp),some (Ab ((i:Int),(j:Int))),none,none,none] K') :
 wpSs T_06 (Af T_06 (d+4)) zT5 [some (.loc o),some (.loc lf),some (.loc lo),some (.loc lp),some (Ab ((i:Int),(j:Int))),none,none,none] K QS R NoX:=by
 have hlid:lid=16777216:=rfl
 refine ex1 LA.inst fun fs zz=>Ac zz fun f0 _=>?_
 have x2:=x.setF (Id es ((i:Int),(j:Int)) (.int a))
 have x3:=x2.setO (Id gs ((i:Int),(j:Int)) .none)
 have gt:Fj (Id es ((i:Int),(j:Int)) (.int a)) ((i:Int),(j:Int))=some (.int a):=by rw [M5,if_pos rfl]
 simp only [↓Ak,↓Cd,↓Gi,↓Cb,↓A2,↓A7,↓A3,↓E9,↓Bx,↓Ah,↓Aq,↓Hw,↓Di,↓Ag]
 rw [Fe f0 (show T_06.meth 7 2=some 25 from rfl)]
 refine (Abj hi hj LA hw hy).then ?_
 rintro v K2 ⟨rfl,rfl⟩
 show Wp (A4 (.loc lf) (.tup [.int (i:Int),.int (j:Int)]) (.int a)) _ _ _
 rw [M7 x.f (by exact Aet n2 hlid)]
 show Wp (A4 (.loc lo) (.tup [.int (i:Int),.int (j:Int)]) .none) _ _ _
 rw [M7 x2.o (by exact Aet n3 hlid),Ki x3.p (show T_06.meth 8 6=some 30 from rfl)]
 show Wp (Dm (.loc lf) (.tup [.int (i:Int),.int (j:Int)])) _ _ _
 rw [M6 x3.f gt]
 refine (Wq (d+3) Mx x3.p x3.h dc (Ww a ((i:Int),(j:Int))) n1).then ?_
 intro w K' zz
 refine Ac zz fun _ zz=>ex1 zz fun ys zz=>Ac zz fun zr2 hp=>?_;subst zr2
 refine q _ ys (x3.setH ys) hp fun m h1 h2 h3=>?_
 rw [List.getElem?_set_ne (Ne.symm h3),List.getElem?_set_ne (Ne.symm h2),List.getElem?_set_ne (Ne.symm h1)]
theorem Zx(og:OkG g r c)(hr:r<=30)(hc:c<=30)(LA:LandAt H o r c lg b s ls g es0)(hd:∀ k,Ab k∈(cells r c).filter (inD es0)->∃ a,hgt g r c k=some a)(x:FS H K lf lo lp lh [] [] [])
 (q:∀ K' es' gs' xs' F' y4,FS H K' lf lo lp lh es' gs' xs'->Has es' F'->Fl (hgt g r c) (fun k=>Ab k∈(cells r c).filter (inD es0)) (fun _ _=>False) F' xs'->xs'.length<=r * c->es'.length<=r * c->gs'.length<=r * c->QS [some (.loc o),some (.loc lf),some (.loc lo),some (.loc lp),y4,none,none,none] K') :
 wpS T_06 (Af T_06 (d+4)) (.each 4 (.umeth (.var 0) 4 .nil) zT5)
  [some (.loc o),some (.loc lf),some (.loc lo),some (.loc lp),none,none,none,none] K QS R NoX:=by
 have hrc:=Nat.mul_le_mul hr hc
 have LK:=LA.ext x.ext
 refine ex1 LK.inst fun fs zz=>Ac zz fun f0 _=>?_
 apply D1
 simp only [↓Bx,↓A2,↓Di,↓Ag,↓Aq]
 rw [Fe f0 (show T_06.meth 7 4=some 27 from rfl)]
 refine (Iw (d:=d+2) hr hc LK).then ?_
 clear LK f0
 intro v K1 zz
 refine ex1 zz fun m' zz=>Cl zz fun zr1 hm' e1 gm=>?_;subst zr1
 rw [B9 (Cf gm)]
 have nd:((cells r c).filter (inD es0)).Nodup:=(Kn r c).sublist List.filter_sublist
 have hsub:∀ x∈(cells r c).filter (inD es0),∃ i j:Nat,x=Ab ((i:Int),(j:Int))/\i < r/\j < c:=fun x hx=>M3 (List.mem_filter.mp hx).1
 have dl:((cells r c).filter (inD es0)).length<=r * c:=by rw [<- Hz r c];exact List.length_filter_le _ _
 generalize (cells r c).filter (inD es0)=ds at *
 have x1:=x.more e1
 have lh':=x.lt
 have lf':=Ce x.f
 have lo':=Ce x.o
 show WpS (Fm (chk (some m') ds) (Rw 4) _ ds _ _) _ _ _
 obtain ⟨I,hI⟩:=Gc (NInv H o lf lo lp lh (fun vs F' xs' gs'=>Fl (hgt g r c) (fun k=>Ab k∈vs) (fun _ _=>False) F' xs') ds m')
 refine Cn I ((hI _ _ _).mpr (.mk [] [] [] (fun _=>none) none x1 (fun k=>rfl) (Fl.start.drainsAre (fun k=>⟨fun h=>h.elim,fun h=>nomatch h⟩)) (fun k f h=>nomatch h) (zI _) (zI _) (zI _) gm)) ?_ ?_ ?_
 · clear x x1 LA hd hsub nd gm
   intro Γ K' h
   refine Ae fun G kG=>?_
   obtain ⟨es',gs',xs',F',y4,x',hes',fl',_,b1,b2,b3,_⟩:=(hI _ _ _).mp h
   refine kG ?_
   rw [List.take_length] at fl'
   exact q K' es' gs' xs' F' y4 x' hes' fl' (zC b1 dl) (zC b2 dl) (zC b3 dl)
 · intro j Γ K' _ h
   obtain ⟨es',gs',xs',F',y4,_,_,_,_,_,_,_,gm'⟩:=(hI _ _ _).mp h
   exact Cj gm'
 · clear x x1 q gm e1
   intro n z Γ K' hz h
   refine Ae fun G kG=>?_
   obtain ⟨es',gs',xs',F',y4,x',hes',fl',only,b1,b2,b3,gm'⟩:=(hI _ _ _).mp h
   have ln:=(List.getElem?_eq_some_iff.mp hz).1
   refine ex2 (hsub z (zF hz)) fun i j zz=>Ap zz fun zr2 hi hj=>?_;subst zr2
   refine ex2 (Ib og hi hj) fun w y zz=>Ap zz fun hw hy hcase=>?_
   obtain ⟨a,ha⟩:=hd _ (zF hz)
   refine kG ?_
   rcases hcase with ⟨_,hn⟩ | ⟨a',rfl,ha0,ha'⟩
   · rw [hn] at ha;cases ha
   have nF:F' ((i:Int),(j:Int))=none:=by
    cases hf:F' ((i:Int),(j:Int)) with
    | none=>rfl
    | some f=>exact absurd (only _ f hf) (Zv nd hz)
   refine ⟨_,rfl,Agn (LA.ext x'.ext) x' hi hj hw hy fl'.dc (by exact Ahg ln hrc dl b1) (by exact Ahg ln hrc dl b2) (by exact Ahg ln hrc dl b3) ?_⟩
   intro K2 ys x3 hp keep
   have fl2:=fl'.opened nF ha'
   refine (hI _ _ _).mpr (.mk _ _ ys _ _ x3 (hes'.put _ _) ((fl2.perm hp).drainsAre (fun k=>?_)) (fun k f hf=>?_) ?_ (zC (Ia _ _ _) (Nat.succ_le_succ b2)) (zC (Ia _ _ _) (Nat.succ_le_succ b3)) ((keep m' (Nat.ne_of_gt (zD lf' hm')) (Nat.ne_of_gt (zD lo' hm')) (Nat.ne_of_gt (zD lh' hm'))).trans gm'))
   · rw [B5 hz]
     exact or_congr Iff.rfl ⟨fun h=>congrArg Ab h,fun h=>Gd h⟩
   · rw [B5 hz]
     by_cases e:k=((i:Int),(j:Int))
     · exact .inr (congrArg Ab e)
     · rw [Lu _ _ e] at hf
       exact .inl (only k f hf)
   · rw [hp.length_eq,List.length_append];exact Nat.succ_le_succ b1
end
section
variable{H:Hp}{d:Nat}{o r c lg b s ls:Nat}{g:List (List Val)}{es0:List (Key × Val)}
theorem W2(og:OkG g r c)(hr:r<=30)(hc:c<=30)(hrc:r * c<=132)(LA:LandAt H o r c lg b s ls g es0)(hd:∀ k,Ab k∈(cells r c).filter (inD es0)->∃ a,hgt g r c k=some a) :
 Wp (Af T_06 (d+5) 6 [.loc o]) H (fun v H'=>∃ lf lo es gs F,v=.tup [.loc lf,.loc lo]/\Ext H H'/\H'[lf]?=some (.dict es)/\H'[lo]?=some (.dict gs)/\Has es F/\Lv (hgt g r c) (fun k=>Ab k∈(cells r c).filter (inD es0)) F) NoE:=by
 rw [At (g:=Aga) rfl rfl]
 refine Ay (fun v K=>v=.loc H.length/\K=H++[.dict []]) (by simp only [↓Ke,and_self]) ?_
 rintro v K ⟨rfl,e⟩
 rw [e];clear e K
 refine Ay (fun v K=>v=.loc (H.length+1)/\K=H++[.dict []]++[.dict []]) (by simp only [↓Ke,List.length_append,List.length_singleton,and_self]) ?_
 rintro v K ⟨rfl,e⟩
 rw [e];clear e K
 refine Ay (fun v K=>v=.loc (H.length+2)/\FS H K H.length (H.length+1) (H.length+2) (H.length+3) [] [] []) ?_ ?_
 · simp only [↓Rf,↓Aq]
   refine Ady (d+3) _ ?_
   have ll:(H++[HObj.dict []]++[HObj.dict []]).length=H.length+2:=by simp
   rw [ll]
   have e0:Ext H (H++[HObj.dict []]):=⟨_,rfl⟩
   have e1:Ext (H++[HObj.dict []]) (H++[HObj.dict []]++[HObj.dict []]):=⟨_,rfl⟩
   have e2:Ext (H++[HObj.dict []]++[HObj.dict []]) (H++[HObj.dict []]++[HObj.dict []]++[HObj.inst 8 [(4,.loc (H.length+2+1))],HObj.list []]):=⟨_,rfl⟩
   refine ⟨rfl,(e0.trans e1).trans e2,zI _,by exact o79,by exact Ar7,by exact Ar8,e2.get (e1.get (Au H _)),e2.get ?_,?_,?_⟩
   · have:=Au (H++[HObj.dict []]) (.dict [])
     rw [List.length_append] at this
     exact this
   · rw [List.getElem?_append_right (by exact Ar9 ll),ll,Nat.sub_self];rfl
   · rw [List.getElem?_append_right (by exact Asa ll),ll,show H.length+3 - (H.length+2)=1 by exact Asb];rfl
 rintro v K ⟨hr2,x⟩;refine Eq.symm hr2▸?_
 refine Dt (QS:=fun Γ K'=>_) _ (Zx og hr hc LA hd x (fun K' es' gs' xs' F' y4 x' hes' fl' b1 b2 b3=>?_)) (fun Γ K h=>h)
 have ml:mz g r c F'<=132 * 133:=by
  refine zC (Aio _ _ _) ?_
  rw [Ff]
  exact Nat.mul_le_mul hrc (Nat.succ_le_succ hrc)
 refine Dt (QS:=fun Γ K'=>_) _ (Ad7 og LA x' hes' fl' (by exact Asd ml hrc b1) (by exact Ajy ml hrc b2) (by exact Ajy ml hrc b3) (fun K2 es2 gs2 F2 z4 z5 z6 z7 x2 hes2 lv=>?_)) (fun Γ K h=>h)
 simp only [↓Ak,↓Bt,↓Bd,↓Hw,↓Ah,↓A2,↓Ao,↓Ag,↓Aq]
 exact ⟨_,_,es2,gs2,F2,rfl,x2.ext,x2.f,x2.o,hes2,lv⟩
noncomputable def ov:Option Int->Val
 | some i=>.int i
 | none=>.none
end
noncomputable def Ea(i c:Nat):List Key:=(List.range c).map fun (j:Nat)=>((i:Int),(j:Int))
theorem Op(r c:Nat):Fq (r+1) c=Fq r c++Ea r c:=by
 unfold Fq Ea;rw [List.range_succ];simp
theorem Oq(i c:Nat):Ea i (c+1)=Ea i c++[((i:Int),(c:Int))]:=by
 unfold Ea;rw [List.range_succ,List.map_append];rfl
theorem P5(i c:Nat):(Ea i c).length=c:=by unfold Ea;rw [List.length_map,List.length_range]
noncomputable def Ic(g:List (List Val))(r c:Nat)(n e:Int)(k:Key):Bool:=(hgt g r c k).isSome && decide (Int.fmod (n+(k.1 * c+k.2) * (1+Int.fmod (Int.fdiv n 12) 5)) e=0)
section
variable{T:Tab}{Φ:Funs}{Γ:Env'}{H K:Hp}{Q:Val->Hp->Prop}{E:Nat->Hp->Prop}{d:Nat}{QS:Env'->Hp->Prop}{R:Val->Hp->Prop}{ES:Nat->Env'->Hp->Prop}{l b s r c:Nat}{g:List (List Val)}
theorem Zy(hS:OkS r c)(og:OkG g r c)(G:GAt H l b s g):∃ w,((List.range g.length).map fun i=>Val.loc (b+s * i))[0]?=some (.loc b)/\H[b]?=some (.list w)/\w.length=c:=by
 refine ex2 (Akh hS og G) fun w x zz=>Lx zz fun _ _ _ lw hi hr=>?_
 exact ⟨w,hi,hr,lw⟩
theorem Akj{w:List Val}(h1:((List.range g.length).map fun i=>Val.loc (b+s * i))[0]?=some (.loc b))(top:H[l]?=some (.list ((List.range g.length).map fun i=>Val.loc (b+s * i))))(h2:H[b]?=some (.list w)):Wp (Dm (.loc l) (.int 0)) H (fun v H'=>Wp (bfV .len [v]) H' Q E) E=Q (.int (w.length:Nat)) H:=by
 rw [show (0:Int)=((0:Nat):Int) from rfl,Cz top h1,Az h2]
theorem Ago{i j:Nat}{w:List Val}{x:Val}(G:GAt H l b s g)(hw:g[i]?=some w)(hx:w[j]?=some x):Wp (Dm (.loc l) (.int (i:Int))) H (fun v H'=>Wp (Dm v (.int (j:Int))) H' Q E) E=Q x H:=by
 rw [Cz G.top (G.item (List.getElem?_eq_some_iff.mp hw).1),Cz (G.row i w hw) hx]
theorem Ad8{i j:Nat}{n e:Int}{x0 x4:Val}(og:OkG g r c)(G:GAt H l b s g)(hi:i < r)(hj:j < c)(h0:e≠0)(sm:small ((i:Int) * (c:Int)+(j:Int))=true) :
 wpE T_06 (Af T_06 (d+1)) (.and (.cmp .isNot (.sub (.sub (.var 1) (.var 5)) (.var 6)) .none) (.cmp .eq (.bin .mod (.bin .add (.var 2) (.bin .mul (.var 7) (.bin .add (.int 1) (.bin .mod (.bin .fdiv (.var 2) (.int 12)) (.int 5))))) (.var 3)) (.int 0)))
  [some x0,some (.loc l),some (.int n),some (.int e),some x4,some (.int (i:Int)),some (.int (j:Int)),some (.int ((i:Int) * (c:Int)+(j:Int)))] H (fun v K=>v=.bool (Ic g r c n e ((i:Int),(j:Int)))/\K=H) NoE:=by
 refine ex2 (Ib og hi hj) fun w' y zz=>Ap zz fun hw' hy hcase=>?_
 show Wp (Dm (.loc l) (.int (i:Int))) H (fun v H'=>Wp (Dm v (.int (j:Int))) H' _ _) _
 rw [Ago G hw' hy]
 rcases hcase with ⟨rfl,hn⟩ | ⟨a,rfl,_,ha⟩
 · exact ⟨congrArg Val.bool (show false=((hgt g r c ((i:Int),(j:Int))).isSome && _) by rw [hn];rfl),rfl⟩
 · exact ⟨by decide,by decide,by rw [sm];rfl,h0,congrArg Val.bool (show decide _=((hgt g r c ((i:Int),(j:Int))).isSome && decide _) by rw [ha];rfl),rfl⟩
theorem Ad9{ns:List Int}{ks:List Key}{i j:Nat}{n e:Int}{a7:Option Val}(hS:OkS r c)(og:OkG g r c)(G:GAt K l b s g)(hi:i < r)(hj:j < c)(h0:e≠0)(kl:ks.length < 1000)
 (q:∀ a7,QS [some (.script ns),some (.loc l),some (.int n),some (.int e),some (.loc K.length),some (.int (i:Int)),some (.int (j:Int)),a7] (K++[.list ((ks++[((i:Int),(j:Int))].filter (Ic g r c n e)).map Ab)])) :
 wpSs T_06 (Af T_06 (d+1)) zT2 [some (.script ns),some (.loc l),some (.int n),some (.int e),some (.loc K.length),some (.int (i:Int)),some (.int (j:Int)),a7] (K++[.list (ks.map Ab)]) QS R NoX:=by
 have hlid:lid=16777216:=rfl
 unfold OkS at hS
 have GK:GAt (K++[.list (ks.map Ab)]) l b s g:=G.ext ⟨_,rfl⟩
 have mul:=Nat.mul_le_mul (show i<=29 by exact Ajm hS hi) (show c<=30 by exact Ahf hS)
 have sm:small ((i:Int) * (c:Int)+(j:Int))=true:=by
  rw [show ((i:Int) * (c:Int)+(j:Int))=((i * c+j:Nat):Int) by rw [Int.natCast_add,Int.natCast_mul]]
  exact Ga (by exact Ase hS hj mul)
 have smi:small (i:Int)=true:=Ga (by exact Ajn hS hi)
 refine Ay (fun v K'=>v=.int ((i:Int) * (c:Int)+(j:Int))/\K'=K++[.list (ks.map Ab)]) ?_ ?_
 · refine Ae fun G kG=>?_
   refine ex1 (Zy (by unfold OkS;exact hS) og GK) fun w zz=>Ap zz fun h1 h2 lw=>?_
   refine kG ?_
   simp only [↓Bv,↓Eb,↓Ah,↓Aq,↓A7,↓A2,↓A3,↓Di,↓Ag]
   rw [Akj h1 GK.top h2,lw]
   exact ⟨by rw [smi];rfl,rfl,rfl⟩
 rintro v K' ⟨rfl,rfl⟩
 refine A5 (Ad8 og GK hi hj h0 sm) ?_
 rintro v K' ⟨rfl,rfl⟩
 refine Dj (fun h=>?_) (fun h=>?_)
 · rw [List.filter_cons_of_pos h] at q
   refine Dx (fun K'=>K'=K++[.list ((ks++[((i:Int),(j:Int))]).map Ab)]) ?_ (fun K' h=>by rw [h];exact q _)
   refine Dd rfl (Au K _) ?_
   refine ⟨_,Au K _,by rw [List.length_map];exact Ajo kl hlid,?_⟩
   rw [Pz,List.map_append];rfl
 · rw [List.filter_cons_of_neg (by rw [h];exact Bool.false_ne_true),List.filter_nil,List.append_nil] at q
   exact q _
theorem Zz(n:Int):∃ e:Int,e≠0/\∀ (x0 x1:Val) (H:Hp),wpE T_06 (Af T_06 d) (.sub (.list (.cons (.int 2) (.cons (.int 3) (.cons (.int 5) (.cons (.int 9) (.cons (.int 14) .nil)))))) (.bin .mod (.bin .fdiv (.var 2) (.int 60)) (.int 5))) [some x0,some x1,some (.int n),none,none,none,none,none] H (fun v K=>v=.int e/\Ext H K) NoE:=by
 refine Ae fun G kG=>?_
 refine ex1 (Cc (Int.fdiv n 60) 5 (by decide)) fun k zz=>Ac zz fun hk lk=>?_
 obtain ⟨e,he⟩:∃ e,([2,3,5,9,14]:List Int)[k]?=some e:=⟨_,List.getElem?_eq_getElem lk⟩
 refine kG ?_
 have h0:∀ e∈([2,3,5,9,14]:List Int),e≠0:=by decide
 refine ⟨e,h0 e (zF he),fun x0 x1 H=>⟨by decide,by decide,?_⟩⟩
 rw [show Int.fmod (Int.fdiv n 60) 5=(k:Int) from hk]
 refine Iu (Au H _) (by exact Asf lk) ?_ ⟨rfl,⟨_,rfl⟩⟩
 show (([2,3,5,9,14]:List Int).map Val.int)[k]?=_
 rw [List.getElem?_map,he];rfl
theorem P6(ns:List Int)(hS:OkS r c)(og:OkG g r c)(G:GAt H l b s g) :
 Wp (Af T_06 (d+2) 14 [.script ns,.loc l]) H (fun v H'=>∃ m n e,v=.loc m/\H.length<=m/\Ext H H'/\H'[m]?=some (.list (((Fq r c).filter (Ic g r c n e)).map Ab))) NoE:=by
 have hS':=hS
 unfold OkS at hS'
 rw [At (g:=Aa2) rfl rfl]
 refine Ay (fun v K=>∃ n,v=.int n/\K=H) ?_ ?_
 · show Wp (Af T_06 (d+1) 8 [.script ns,.int ((2:Nat):Int)]) H _ _
   rw [Gk]
   exact ⟨_,rfl,rfl⟩
 rintro v K ⟨n,rfl,rfl⟩
 refine ex1 (Zz (d:=d+1) n) fun e zz=>Ac zz fun h0 he=>?_
 refine Ay _ (he _ _ _) ?_
 clear he
 rintro v H1 ⟨rfl,e1⟩
 have G1:=G.ext e1
 refine Ay (fun v K=>v=.loc H1.length/\K=H1++[.list (([]:List Key).map Ab)]) ⟨rfl,rfl⟩ ?_
 rintro v K ⟨rfl,rfl⟩
 have ll:=Jo og (b:=b) (s:=s) (l:=l)
 obtain ⟨I,hI⟩:=Gc (fun (i:Nat) (Γ:Env') (K:Hp)=>∃ a5 a6 a7,Γ=[some (.script ns),some (.loc l),some (.int n),some (.int e),some (.loc H1.length),a5,a6,a7]/\K=H1++[.list (((Fq i c).filter (Ic g r c n e)).map Ab)])
 refine Dt (I r) ?_ ?_
 · refine E1 (n:=r) I ?_ ⟨by exact Asg hS' ll,by exact Ash hS' ll⟩ ((hI _ _ _).mpr ⟨_,_,_,rfl,rfl⟩) ?_ (fun Γ K h=>by rw [Int.toNat_natCast] at h;exact h)
   · show Wp (bfV .len [.loc l]) _ _ _
     rw [Az (Ext.get ⟨_,rfl⟩ G1.top),ll];exact ⟨rfl,rfl⟩
   · intro i Γ K hi h
     refine ex3 ((hI _ _ _).mp h) fun a5 a6 a7 zz=>Ac zz fun zr3 zr4=>?_;subst zr3;subst zr4
     have hi':i < r:=by exact Asi hi ll
     obtain ⟨J,hJ⟩:=Gc (fun (j:Nat) (Γ:Env') (K:Hp)=>∃ a6 a7,Γ=[some (.script ns),some (.loc l),some (.int n),some (.int e),some (.loc H1.length),some (.int (i:Int)),a6,a7]/\K=H1++[.list (((Fq i c++Ea i j).filter (Ic g r c n e)).map Ab)])
     refine E1 (n:=c) J ?_ ⟨by exact Asj hS',by exact Ask hS'⟩ ((hJ _ _ _).mpr ⟨_,_,rfl,by rw [show Ea i 0=[] from rfl,List.append_nil]⟩) ?_ ?_
     · refine Ae fun G kG=>?_
       refine ex1 (Zy hS og G1) fun w zz=>Ap zz fun h1 h2 lw=>?_
       refine kG ?_
       have e0:Ext H1 (H1++[HObj.list (((Fq i c).filter (Ic g r c n e)).map Ab)]):=⟨_,rfl⟩
       show Wp (Dm (.loc l) (.int 0)) _ (fun v H'=>Wp (bfV .len [v]) H' _ _) _
       rw [Akj h1 (e0.get G1.top) (e0.get h2),lw];exact ⟨rfl,rfl⟩
     · intro j Γ K hj h
       refine ex2 ((hJ _ _ _).mp h) fun a6 a7 zz=>Ac zz fun zr2 zr3=>?_;subst zr2;subst zr3
       refine Ad9 hS og G1 hi' (by exact Aep hj) h0 ?_ fun a7=>(hJ _ _ _).mpr ⟨_,_,rfl,?_⟩
       · have t1:=List.length_filter_le (Ic g r c n e) (Fq i c++Ea i j)
         rw [List.length_append,Ff,P5] at t1
         have t2:=Nat.mul_le_mul (show i<=29 by exact Asl hi hS' ll) (show c<=30 by exact Ahf hS')
         exact Asm hj hS' t2 t1
       · rw [Oq,<- List.append_assoc,<- List.filter_append]
     · intro Γ K h
       refine ex2 ((hJ _ _ _).mp h) fun a6 a7 zz=>Ac zz fun zr2 zr3=>?_;subst zr2;subst zr3
       refine (hI _ _ _).mpr ⟨_,_,_,rfl,?_⟩
       rw [Int.toNat_natCast,<- Op]
 intro Γ K h
 refine Ae fun G kG=>?_
 refine ex3 ((hI _ _ _).mp h) fun a5 a6 a7 zz=>Ac zz fun zr3 zr4=>?_;subst zr3;subst zr4
 refine kG ?_
 exact ⟨H1.length,n,e,rfl,e1.len,e1.trans ⟨_,rfl⟩,Au H1 _⟩
end
theorem Aea(es:List (Key × Val))(k:Key)(v:Val)(k':Key):inD (Id es k v) (Ab k')=true↔(inD es (Ab k')=true\/k'=k):=by
 show (Fj (Id es k v) k').isSome=true↔((Fj es k').isSome=true\/k'=k)
 rw [M5]
 by_cases e:k'=k
 · rw [if_pos e];exact ⟨fun _=>.inr e,fun _=>rfl⟩
 · rw [if_neg e];exact ⟨fun h=>.inl h,fun h=>h.resolve_right e⟩
section
variable{T:Tab}{Φ:Funs}{Γ:Env'}{H K:Hp}{Q:Val->Hp->Prop}{E:Nat->Hp->Prop}{d:Nat}{QS:Env'->Hp->Prop}{R:Val->Hp->Prop}{ES:Nat->Env'->Hp->Prop}{l b s r c:Nat}{g:List (List Val)}
theorem Rp{cnd e:ME}{ks:List Key}{q:Key}{K0:Hp}{ll rr cc:Nat}{v0 v1:Option Val}(kl:ks.length < 100)(hl:ll=K0.length)
 (hc:wpE T Φ cnd [v0,v1,some (.loc ll)] (K0++[.list (ks.map Ab)]) (fun v K=>v=.bool (inR rr cc q)/\K=K0++[.list (ks.map Ab)]) NoE)
 (he:wpE T Φ e [v0,v1,some (.loc ll)] (K0++[.list (ks.map Ab)]) (fun v K=>v=Ab q/\K=K0++[.list (ks.map Ab)]) NoE)
 {ss:MSs} (hq:wpSs T Φ ss [v0,v1,some (.loc ll)] (K0++[.list ((ks++[q].filter (inR rr cc)).map Ab)]) QS R ES):wpSs T Φ (.cons (.ite cnd (.cons (.expr (.bm (.var 2) .append (.cons e .nil))) .nil) .nil) ss) [v0,v1,some (.loc ll)] (K0++[.list (ks.map Ab)]) QS R ES:=by
 have hlid:lid=16777216:=rfl
 subst hl
 refine A5 hc ?_
 rintro v K ⟨rfl,e1⟩
 rw [e1];clear e1 K
 refine Dj (fun h=>?_) (fun h=>?_)
 · rw [List.filter_cons_of_pos h] at hq
   refine Dx (fun K=>K=K0++[.list ((ks++[q]).map Ab)]) ?_ (fun K h=>by rw [h];exact hq)
   refine Dd rfl (Au K0 _) (A5 he ?_)
   rintro v K ⟨rfl,rfl⟩
   refine ⟨_,Au K0 _,by rw [List.length_map];exact Asn kl hlid,?_⟩
   rw [Pz,List.map_append];rfl
 · rw [List.filter_cons_of_neg (by rw [h];exact Bool.false_ne_true),List.filter_nil,List.append_nil] at hq
   skip;exact hq
theorem Rq(hS:OkS r c)(og:OkG g r c)(G:GAt H l b s g):Wp (Dm (.loc l) (.int 0)) H (fun v H'=>Wp (bfV .len [v]) H' Q E) E=Q (.int (c:Int)) H:=by
 refine ex1 (Zy hS og G) fun w zz=>Ap zz fun h1 h2 lw=>?_
 rw [show (0:Int)=((0:Nat):Int) from rfl,Cz G.top h1,Az h2,lw]
theorem Aeb(r c:Nat)(i j:Int):bes r c i j=((([]++[(i - 1,j)].filter (inR r c))++[(i,j - 1)].filter (inR r c))++[(i,j+1)].filter (inR r c))++[(i+1,j)].filter (inR r c):=by
 unfold bes P3
 rw [List.nil_append,<- List.filter_append,<- List.filter_append,<- List.filter_append];rfl
set_option maxHeartbeats 1000000 in
theorem W3{i r:Nat}(h:i < r):(i:Int) - 1 < r:=Int.lt_of_le_of_lt (Int.sub_le_self _ (by decide)) (Int.ofNat_lt.mpr h)
theorem P7{i j:Nat}(hS:OkS r c)(og:OkG g r c)(G:GAt H l b s g)(hi:i < r)(hj:j < c) :
 Wp (Af T_06 (d+1) 16 [.loc l,.tup [.int (i:Int),.int (j:Int)]]) H (fun v H'=>∃ m,v=.loc m/\H.length<=m/\Ext H H'/\H'[m]?=some (.list (((bes r c i j).filter (fun q=>(hgt g r c q).isSome)).map Ab))) NoE:=by
 have hlid:lid=16777216:=rfl
 have hS':=hS
 unfold OkS at hS'
 have GX:∀ ob,GAt (H++[ob]) l b s g:=fun ob=>G.ext ⟨_,rfl⟩
 have ll:=Jo og (b:=b) (s:=s) (l:=l)
 have l1:∀ k:Key,([k].filter (inR r c)).length<=1:=fun k=>List.length_filter_le _ _
 rw [At (g:=Aa4) rfl rfl]
 refine Ay (fun v K=>v=.loc H.length/\K=H++[.list (([]:List Key).map Ab)]) ⟨rfl,rfl⟩ ?_
 rintro v K ⟨rfl,e⟩
 rw [e];clear e K
 have a1:=l1 ((i:Int) - 1,(j:Int))
 have a2:=l1 ((i:Int),(j:Int) - 1)
 have a3:=l1 ((i:Int),(j:Int)+1)
 refine Rp (q:=((i:Int) - 1,(j:Int))) (rr:=r) (cc:=c) (by decide) rfl ?_ (by exact ⟨rfl,rfl⟩) ?_
 · refine ⟨?_,rfl⟩
   exact congrArg Val.bool (decide_eq_decide.mpr ⟨fun h=>⟨Int.le_sub_one_of_lt h,W3 hi,Int.natCast_nonneg j,Int.ofNat_lt.mpr hj⟩,fun h=>Int.lt_of_le_sub_one h.1⟩)
 refine Rp (q:=((i:Int),(j:Int) - 1)) (rr:=r) (cc:=c) (by simp only [List.length_append,List.length_nil];exact Aso a1) rfl ?_ (by exact ⟨rfl,rfl⟩) ?_
 · refine ⟨?_,rfl⟩
   exact congrArg Val.bool (decide_eq_decide.mpr ⟨fun h=>⟨Int.natCast_nonneg i,Int.ofNat_lt.mpr hi,Int.le_sub_one_of_lt h,W3 hj⟩,fun h=>Int.lt_of_le_sub_one h.2.2.1⟩)
 refine Rp (q:=((i:Int),(j:Int)+1)) (rr:=r) (cc:=c) (by simp only [List.length_append,List.length_nil];exact Asp a1 a2) rfl ?_ (by exact ⟨rfl,rfl⟩) ?_
 · show Wp (Dm (.loc l) (.int 0)) _ (fun v H'=>Wp (bfV .len [v]) H' _ _) _
   rw [Rq hS og (GX _)]
   exact ⟨congrArg Val.bool (decide_eq_decide.mpr ⟨fun h=>⟨Int.natCast_nonneg i,Int.ofNat_lt.mpr hi,Int.natCast_nonneg (j+1),h⟩,fun h=>h.2.2.2⟩),rfl⟩
 refine Rp (q:=((i:Int)+1,(j:Int))) (rr:=r) (cc:=c) (by simp only [List.length_append,List.length_nil];exact Asq a1 a2 a3) rfl ?_ (by exact ⟨rfl,rfl⟩) ?_
 · show Wp (bfV .len [.loc l]) _ _ _
   rw [Az (GX _).top,ll]
   exact ⟨congrArg Val.bool (decide_eq_decide.mpr ⟨fun h=>⟨Int.natCast_nonneg (i+1),h,Int.natCast_nonneg j,Int.ofNat_lt.mpr hj⟩,fun h=>h.2.1⟩),rfl⟩
 rw [<- Aeb]
 have blen:=Wz r c i j
 have bin:∀ q∈bes r c i j,inR r c q=true:=fun q hq=>(M8.mp hq).2
 generalize bes r c i j=bs at *
 have e0:Ext H (H++[HObj.list (bs.map Ab)]):=⟨_,rfl⟩
 refine M9 (l:=H.length) (ks:=bs) (p:=fun q=>(hgt g r c q).isSome) rfl (Au H _) (by exact Asr blen) ⟨rfl,rfl⟩ (fun q hq=>?_) ⟨_,rfl,by rw [List.length_append];exact zM _ _,e0.new _,Au _ _⟩
 refine Ae fun G kG=>?_
 refine ex2 (Ha (bin q hq)) fun i' j' zz=>Ap zz fun zr2 hi' hj'=>?_;subst zr2
 refine ex2 (Ib og hi' hj') fun w y zz=>Ap zz fun hw hy hcase=>?_
 refine kG ?_
 show Wp (Dm (.loc l) (.int (i':Int))) _ (fun v H'=>Wp (Dm v (.int (j':Int))) H' _ _) _
 rw [Ago (GX _) hw hy]
 rcases hcase with ⟨rfl,hn⟩ | ⟨a,rfl,_,ha⟩
 · rw [hn];exact ⟨rfl,rfl⟩
 · rw [ha];exact ⟨rfl,rfl⟩
end
section
variable{h:Key->Option Int}{D:Key->Prop}{F:Key->Option Int}{gs:List (Key × Val)}{k:Key}{ws:List Key}
end
theorem Iz(r c:Nat):(Fq r c).Nodup:=by
 have:=Kn r c
 rw [<- Gl] at this
 exact List.Pairwise.imp (fun h e=>h (congrArg Ab e)) (List.pairwise_map.mp this)
theorem Na{r c:Nat}{ws:List Key}(nd:ws.Nodup)(hin:∀ q∈ws,q∈Fq r c):ws.length<=r * c:=by
 have p:((Fq r c).filter (fun k=>decide (k∈ws))).Perm ws:=by
  rw [List.perm_ext_iff_of_nodup ((Iz r c).sublist List.filter_sublist) nd]
  intro k
  rw [List.mem_filter,decide_eq_true_eq]
  exact ⟨fun h=>h.2,fun h=>⟨hin k h,h⟩⟩
 rw [<- p.length_eq,<- Ff r c]
 exact List.length_filter_le _ _
section
variable{H:Hp}{Q:Val->Hp->Prop}{E:Nat->Hp->Prop}
end
section
variable{T:Tab}{Φ:Funs}{Γ:Env'}{H K:Hp}{Q:Val->Hp->Prop}{E:Nat->Hp->Prop}{d:Nat}{QS:Env'->Hp->Prop}{R:Val->Hp->Prop}{ES:Nat->Env'->Hp->Prop}{l b s r c:Nat}{g:List (List Val)}{F:Key->Option Int}
theorem Nb{α:Type}{f:Val->Option PyData}{v:α->Val}{gd:α->PyData}(ks:List α)(h:∀ k∈ks,f (v k)=some (gd k)):Jd f (ks.map v)=some (ks.map gd):=by
 induction ks with
 | nil=>rfl
 | cons k ks ih =>
  show (match f (v k),Jd f (ks.map v) with | some d,some ds=>some (d :: ds) | _,_=>none)=_
  rw [h k (.head _),ih (fun k hk=>h k (.tail _ hk))];rfl
theorem Aec{ld:Nat}{ks:List Key}{k:Key}(h:H[ld]?=some (.list (ks.map Ab))):D2 .isin (Ab k) (.loc ld) H=some (decide (k∈ks)):=by
 have e:D2 .isin (Ab k) (.loc ld) H=inV (Ab k) (.loc ld) H:=rfl
 have dk:∀ q:Key,A6 H Fi (Ab q)=some (.tuple [.int q.1,.int q.2]):=fun q=>rfl
 have ds:Jd (A6 H Fi) (ks.map Ab)=some (ks.map fun q=>PyData.tuple [.int q.1,.int q.2]):=by
  exact Nb ks (fun k _=>dk k)
 rw [e]
 unfold inV
 simp only [h]
 unfold Ng
 rw [dk,ds]
 show some (List.any (ks.map fun q=>PyData.tuple [.int q.1,.int q.2]) fun y=>PyData.eqv y (.tuple [.int k.1,.int k.2]))=_
 congr 1
 rw [Bool.eq_iff_iff,List.any_eq_true,decide_eq_true_eq]
 have ev:∀ q:Key,PyData.eqv (.tuple [.int q.1,.int q.2]) (.tuple [.int k.1,.int k.2])=(q.1 == k.1 && (q.2 == k.2 && true)):=fun q=>rfl
 constructor
 · rintro ⟨y,hy,h1⟩
   refine ex1 (List.mem_map.mp hy) fun q zz=>Ac zz fun hq zr2=>?_;subst zr2
   rw [ev] at h1
   simp at h1
   rw [<- Prod.ext h1.1 h1.2];exact hq
 · intro hk
   refine ⟨_,List.mem_map.mpr ⟨k,hk,rfl⟩,?_⟩
   rw [ev];simp
theorem Z0{i j:Nat}{q:Key}:q∈(bes r c i j).filter (fun q=>(hgt g r c q).isSome)↔(Adj ((i:Int),(j:Int)) q/\hgt g r c q≠none):=by
 rw [List.mem_filter,M8]
 constructor
 · rintro ⟨⟨h1,_⟩,h2⟩
   exact ⟨h1,fun c=>by rw [c] at h2;cases h2⟩
 · rintro ⟨h1,h2⟩
   cases e:hgt g r c q with
   | none=>exact absurd e h2
   | some y=>exact ⟨⟨h1,I8 e⟩,rfl⟩
theorem W4{l:Nat}{es:List (Key × Val)}{i j:Int}(h:H[l]?=some (.dict es)):D2 .isin (.tup [.int i,.int j]) (.loc l) H=some ((Fj es (i,j)).isSome):=by
 show inV (.tup [.int i,.int j]) (.loc l) H=_
 unfold inV
 simp only [h];rfl
theorem Z1{es:List (Key × Val)}{k:Key}(hes:Has es F):(Fj es k).isSome=(F k).isSome:=by
 rw [hes k];cases F k <;> rfl
end
section
variable{T:Tab}{Φ:Funs}{Γ:Env'}{H K:Hp}{Q:Val->Hp->Prop}{E:Nat->Hp->Prop}{d:Nat}{QS:Env'->Hp->Prop}{R:Val->Hp->Prop}{ES:Nat->Env'->Hp->Prop}{o l b s r c lg ls m:Nat}{g:List (List Val)}{F:Key->Option Int}{es0:List (Key × Val)}{D:List Val}{v:Val}
theorem W5:Af T_06 (d+1) 19 [.exc 2] H=.ok (.str "height") H:=by kernel_rfl
theorem Td{ld:Nat}{ks:List Key}{k:Key}(h:H[ld]?=some (.list (ks.map Ab))):D2 .notin (Ab k) (.loc ld) H=some (!decide (k∈ks)):=by
 show Aad true (inV (Ab k) (.loc ld) H)=_
 rw [show inV (Ab k) (.loc ld) H=some (decide (k∈ks)) from Aec h];rfl
end
theorem Jp:∀ ds:List PyData,(∀ d∈ds,PyData.eqv d d=true)->PyData.eqvAll ds ds=true
 | [],_=>rfl
 | d :: ds,h=>by
  show (PyData.eqv d d && PyData.eqvAll ds ds)=true
  rw [h d (.head _),Jp ds fun x hx=>h x (.tail _ hx)];rfl
noncomputable def vd:Val->PyData
 | .int i=>.int i
 | _=>.none
noncomputable def NV(v:Val):Prop:=v=.none\/∃ n,v=.int n
theorem Aed{v:Val}(h:NV v):PyData.eqv (vd v) (vd v)=true:=by
 rcases h with rfl | ⟨n,rfl⟩
 · rfl
 · show (n == n)=true;simp
section
variable{T:Tab}{Φ:Funs}{Γ:Env'}{H K:Hp}{Q:Val->Hp->Prop}{E:Nat->Hp->Prop}{d:Nat}{QS:Env'->Hp->Prop}{R:Val->Hp->Prop}{ES:Nat->Env'->Hp->Prop}{l b s r c:Nat}{g:List (List Val)}
theorem Aee{n:Nat}{v:Val}(h:NV v):A6 H n v=some (vd v):=by
 rcases h with rfl | ⟨i,rfl⟩
 · exact V6 n
 · exact Zi n i
theorem Os{n l:Nat}{xs:List Val}(h:H[l]?=some (.list xs)):A6 H (n+1) (.loc l)=(Jd (A6 H n) xs).map .list:=by
 have:A6 H (n+1) (.loc l)=(match H[l]? with | some (.list xs)=>(Jd (A6 H n) xs).map .list | _=>none):=rfl
 rw [this,h]
theorem Z2{n l:Nat}{w:List Val}(h:H[l]?=some (.list w))(hw:∀ v∈w,NV v):A6 H (n+1) (.loc l)=some (.list (w.map vd)):=by
 rw [Os h]
 have:=Nb (f:=A6 H n) (v:=fun x=>x) (gd:=vd) w (fun v hv=>Aee (hw v hv))
 rw [List.map_id'] at this
 rw [this];rfl
theorem Ot(G:GAt H l b s g)(hg:∀ w∈g,∀ v∈w,NV v):A6 H Fi (.loc l)=some (.list (g.map fun w=>.list (w.map vd))):=by
 show A6 H (5+1) (.loc l)=_
 rw [Os G.top]
 have e:(List.range g.length).map (fun i=>PyData.list (((g[i]?).getD []).map vd))=g.map fun w=>.list (w.map vd):=by
  refine List.ext_getElem? fun i=>?_
  rw [List.getElem?_map,List.getElem?_map]
  by_cases q:i < g.length
  · rw [List.getElem?_range q]
    show some (PyData.list (((g[i]?).getD []).map vd))=_
    rw [List.getElem?_eq_getElem q];rfl
  · rw [List.getElem?_eq_none (by rw [List.length_range];exact Aeo q),List.getElem?_eq_none (by exact Aeo q)];rfl
 rw [Nb (gd:=fun i=>PyData.list (((g[i]?).getD []).map vd)) (List.range g.length) (fun i hi=>?_),e]
 · rfl
 · have q:=List.mem_range.mp hi
   have hw:g[i]?=some g[i]:=List.getElem?_eq_getElem q
   rw [Z2 (n:=4) (G.row i _ hw) (hg _ (List.getElem_mem q)),hw];rfl
theorem Z3{l' b' s':Nat}(G:GAt H l b s g)(G':GAt H l' b' s' g)(hg:∀ w∈g,∀ v∈w,NV v):Hb H (.loc l) (.loc l')=some true:=by
 unfold Hb
 rw [Ot G hg,Ot G' hg]
 show some (PyData.eqvAll _ _)=_
 rw [Jp]
 intro x hx
 refine ex1 (List.mem_map.mp hx) fun w zz=>Ac zz fun hw zr2=>?_;subst zr2
 refine Jp _ fun y hy=>?_
 refine ex1 (List.mem_map.mp hy) fun v zz=>Ac zz fun hv zr2=>?_;subst zr2
 exact Aed (hg w hw v hv)
theorem OkG.nv(og:OkG g r c):∀ w∈g,∀ v∈w,NV v:=fun w hw v hv=>by
 obtain ⟨i,hi⟩:=List.mem_iff_getElem?.mp hw
 rcases (og.row i w hi).2 v hv with h | ⟨n,h,_⟩
 · exact .inl h
 · exact .inr ⟨n,h⟩
theorem Z4{a a':Nat}{ks:List Key}(ha:H[a]?=some (.list (ks.map Ab)))(hb:H[a']?=some (.list (ks.map Ab))):Hb H (.loc a) (.loc a')=some true:=by
 refine Zu (ds:=ks.map fun q=>PyData.tuple [.int q.1,.int q.2]) ha hb (Nb ks fun k _=>rfl) ?_
 refine Jp _ fun x hx=>?_
 refine ex1 (List.mem_map.mp hx) fun k zz=>Ac zz fun _ hr0=>?_;refine hr0▸?_
 show (k.1 == k.1 && (k.2 == k.2 && true))=true
 simp
theorem Te{es:List (Key × Val)}{pd:Key->Bool}(h:∀ k,inD es (Ab k)=true↔k∈(Fq r c).filter pd):(cells r c).filter (inD es)=((Fq r c).filter pd).map Ab:=by
 rw [<- Gl,List.filter_map]
 congr 1
 refine List.filter_congr fun k hk=>?_
 rw [Bool.eq_iff_iff]
 show inD es (Ab k)=true↔_
 rw [h k,List.mem_filter]
 exact ⟨fun x=>x.2,fun x=>⟨hk,x⟩⟩
end
theorem Ou{k:Key}{ks:List Key}:Ab k∈ks.map Ab↔k∈ks:=by
 constructor
 · intro h
   refine ex1 (List.mem_map.mp h) fun q zz=>Ac zz fun hq e=>?_
   rw [<- Gd e];exact hq
 · exact fun h=>List.mem_map.mpr ⟨k,h,rfl⟩
structure Lk(H:Hp)(r c:Nat)(g:List (List Val))(ks:List Key)(l m o:Nat):Prop where
 s:OkS r c
 n:r * c<=132
 og:OkG g r c
 G:GAt H l (l+2) 2 g
 m:H[m]?=some (.list (ks.map Ab))
 L:∃ lg b' ls es,LandAt H o r c lg b' 1 ls g es/\(cells r c).filter (inD es)=ks.map Ab
 d:∀ k∈ks,∃ a,hgt g r c k=some a
section
variable{T:Tab}{Φ:Funs}{Γ:Env'}{H K:Hp}{Q:Val->Hp->Prop}{E:Nat->Hp->Prop}{d:Nat}{QS:Env'->Hp->Prop}{R:Val->Hp->Prop}{ES:Nat->Env'->Hp->Prop}{l r c m o:Nat}{g:List (List Val)}{ks:List Key}{v:Val}
theorem Lk.ext{H':Hp}(x:Lk H r c g ks l m o)(e:Ext H H'):Lk H' r c g ks l m o:=by
 refine Ae fun G kG=>?_
 refine ex4 x.L fun lg b' ls es zz=>Ac zz fun L q=>?_
 refine kG ?_
 exact ⟨x.s,x.n,x.og,x.G.ext e,e.get x.m,⟨lg,b',ls,es,L.ext e,q⟩,x.d⟩
theorem W6{i l:Nat}{it:ME}{body:MSs}{xs:List Val}{K0:Hp}(I:Nat->Env'->Hp->Prop)(hit:wpE T Φ it Γ H (fun v H'=>v=.loc l/\H'=K0) NoE)(hl:K0[l]?=some (.list xs))(h0:I 0 Γ K0)(hx:∀ k Γ K,I k Γ K->K[l]?=some (.list xs))
 (hs:∀ k x Γ K,xs[k]?=some x->I k Γ K->wpSs T Φ body (Γ.set i (some x)) K (I (k+1)) R ES) (hd:∀ Γ K,I xs.length Γ K->QS Γ K):wpS T Φ (.each i it body) Γ H QS R ES:=by
 refine D1 (A5 hit ?_)
 rintro v H' ⟨rfl,e⟩
 rw [e,B9 (Cf hl)]
 exact Cn I h0 hd (fun k Γ K _ h=>Cj (hx k Γ K h)) fun k x Γ K hx h=>⟨_,rfl,hs k x Γ K hx h⟩
end
noncomputable def kt(a b:Key):Bool:=decide (a.1 < b.1) || (decide (a.1=b.1) && decide (a.2 < b.2))
theorem Lw{a b:Key}:kt a b=true↔(a.1 < b.1\/(a.1=b.1/\a.2 < b.2)):=by
 unfold kt
 rw [Bool.or_eq_true,Bool.and_eq_true,decide_eq_true_iff,decide_eq_true_iff,decide_eq_true_iff]
theorem Aef{a b:Key}(h:¬(a.1 < b.1\/(a.1=b.1/\a.2 < b.2))):kt a b=false:=Bool.eq_false_iff.mpr fun q=>h (Lw.mp q)
theorem Z5{a b:Key}(h:kt a b=false):¬(a.1 < b.1\/(a.1=b.1/\a.2 < b.2)):=fun q=>by rw [Lw.mpr q] at h;exact nomatch h
theorem W7(a b:Key):Jr Fi (Ab a) (Ab b)=some (kt a b):=by
 have e:Jr Fi (Ab a) (Ab b)=(match Hb [] (.int a.1) (.int b.1) with
  | some true=>(match Hb [] (.int a.2) (.int b.2) with
   | some true=>some false
   | some false=>some (decide (a.2 < b.2))
   | none=>none)
  | some false=>some (decide (a.1 < b.1))
  | none=>none):=rfl
 have pe:∀ x y:Int,Hb [] (.int x) (.int y)=some (decide (x=y)):=fun x y=>rfl
 rw [e,pe,pe]
 unfold kt
 by_cases h1:a.1=b.1
 · rw [decide_eq_true h1,decide_eq_false (show ¬a.1 < b.1 by exact Ajz h1)]
   by_cases h2:a.2=b.2
   · rw [decide_eq_true h2,decide_eq_false (show ¬a.2 < b.2 by exact Ajz h2)];rfl
   · rw [decide_eq_false h2];rfl
 · rw [decide_eq_false h1]
   show some (decide (a.1 < b.1))=some (decide (a.1 < b.1) || false)
   rw [Bool.or_false]
noncomputable def ltV(a b:Val):Bool:=match Es a,Es b with
 | some x,some y=>kt x y
 | _,_=>false
theorem Eo{ks:List Key}{C:Val->Prop}(h:∀ k,C (Ab k)):∀ x∈ks.map Ab,C x:=fun x hx=>by refine ex1 (List.mem_map.mp hx) fun k zz=>Ac zz fun _ e=>?_;exact e▸h k
theorem Tf(ks:List Key):Order (ks.map Ab) ltV :=
 ⟨Eo fun a=>Eo fun b=>W7 a b,
  Eo fun a=>Eo fun b h=>Aef (a:=b) (b:=a) (by have h:=Lw.mp (show kt a b=true from h);exact Aj0 h),
  Eo fun a=>Eo fun b=>Eo fun c h1 h2=>Aef (a:=c) (b:=a) (by have n1:=Z5 (a:=b) (b:=a) h1;have n2:=Z5 (a:=c) (b:=b) h2;exact Ass n1 n2),
  Eo fun a=>Eo fun b h1 h2=>by
   have n1:=Z5 (a:=a) (b:=b) h1
   have n2:=Z5 (a:=b) (b:=a) h2
   rw [show a=b from Prod.ext (by exact Ast n1 n2) (by exact Asu n1 n2)]⟩
theorem Aeg(r c:Nat):(Fq r c).Pairwise fun a b=>kt a b=true:=by
 induction r with
 | zero=>exact .nil
 | succ r ih =>
  rw [Op,List.pairwise_append]
  refine ⟨ih,?_,fun a ha b hb=>?_⟩
  · unfold Ea
    rw [List.pairwise_map]
    exact List.pairwise_lt_range.imp fun {i j} h=>Lw (a:=((r:Int),((i:Nat):Int))) (b:=((r:Int),((j:Nat):Int))) |>.mpr (.inr ⟨rfl,Int.ofNat_lt.mpr h⟩)
  · have ha:=of_decide_eq_true (Fg.mp ha)
    refine ex1 (List.mem_map.mp hb) fun j zz=>Ac zz fun _ hr0=>?_;refine hr0▸?_
    exact Lw.mpr (.inl ha.2.1)
open Classical in
noncomputable def I0(r c:Nat)(P:Key->Prop):List Key:=(Fq r c).filter fun k=>decide (P k)
open Classical in
theorem W8{r c:Nat}{ks:List Key}{P:Key->Prop}(nd:ks.Nodup)(hP:∀ k,k∈ks↔P k)(inr:∀ k∈ks,inR r c k=true)(h:r * c<=132):Fk (ks.map Ab)=some ((I0 r c P).map Ab):=by
 have pm:(I0 r c P).Perm ks:=by
  unfold I0
  rw [List.perm_ext_iff_of_nodup ((Iz r c).sublist (List.filter_sublist)) nd]
  intro k
  rw [List.mem_filter,decide_eq_true_iff,hP]
  exact ⟨fun h=>h.2,fun h=>⟨Fg.mpr (inr k ((hP k).mpr h)),h⟩⟩
 have hl:ks.length<=132:=by
  rw [<- pm.length_eq]
  refine zC (List.length_filter_le _ _) ?_
  rw [Ff];exact h
 refine Nh ⟨by rw [List.length_map];exact Asv hl,List.pairwise_map.mpr (nd.imp fun {a b} n e=>n (Gd e)),Eo fun k=>⟨_,rfl⟩,ltV,Tf ks⟩ ⟨pm.map Ab,?_⟩
 rw [List.pairwise_map]
 refine ((Aeg r c).sublist List.filter_sublist).imp fun {a b} h=>?_
 rw [W7]
 have:=Lw.mp h
 rw [Aef (a:=b) (b:=a) (by exact Aj0 this)]
theorem W9{H:Hp}{Q:Val->Hp->Prop}{E:Nat->Hp->Prop}{l:Nat}{xs ys:List Val}(h:Ej l H=some xs)(e:Fk xs=some ys)(q:Q (.loc H.length) (H++[.list ys])):Wp (bfV .sorted [.loc l]) H Q E:=by
 refine Wp.of_eq ?_ q
 show (match (Ej l H).bind Fk with
  | some ys=>M.alloc (.list ys) H
  | none=>.bad)=_
 rw [h]
 show (match Fk xs with
  | some ys=>M.alloc (.list ys) H
  | none=>.bad)=_
 rw [e];rfl
theorem Z6{H:Hp}{l:Nat}{xs:List Val}(h:H[l]?=some (.list xs)):Ej l H=some xs:=by delta Ej;rw [h]
inductive Rch(ok st:Key->Prop):Key->Prop
 | start {k:Key}:st k->Rch ok st k
 | step {p q:Key}:Rch ok st p->Adj p q->ok q->Rch ok st q
structure Df(ok st:Key->Prop)(S:List Key)(C:Key->Prop)(O:Key->Key->Prop):Prop where
 nd:S.Nodup
 rch:∀ q∈S,Rch ok st q
 here:∀ k,st k->k∈S
 cl:∀ p q,C p->Adj p q->ok q->q∈S\/O p q
section
variable{ok st:Key->Prop}{p q:Key}{S:List Key}{C C':Key->Prop}{O O':Key->Key->Prop}
theorem Df.start(nd:S.Nodup)(h:∀ k,k∈S↔st k):Df ok st S (fun _=>False) O:=⟨nd,fun q hq=>.start ((h q).mp hq),fun k hk=>(h k).mpr hk,fun _ _ h=>h.elim⟩
theorem Df.imp(x:Df ok st S C O)(h:∀ p q,C' p->Adj p q->ok q->(C p/\(O p q->O' p q))\/O' p q):Df ok st S C' O' :=
 ⟨x.nd,x.rch,x.here,fun p q hp a o=>(h p q hp a o).elim (fun z=>(x.cl p q z.1 a o).imp id z.2) .inr⟩
theorem Df.push(x:Df ok st S C O)(hp:p∈S)(a:Adj p q)(o:ok q)(n:¬q∈S)(h:∀ p' q',O p' q'->O' p' q'\/q'=q):Df ok st (S++[q]) C O':=by
 refine ⟨?_,fun z hz=>?_,fun k hk=>List.mem_append_left _ (x.here k hk),fun p' q' hp' a' o'=>?_⟩
 · rw [List.nodup_append]
   refine ⟨x.nd,List.nodup_cons.mpr ⟨List.not_mem_nil,.nil⟩,fun z hz w hw e=>?_⟩
   rw [List.mem_singleton.mp hw] at e
   exact n (e▸hz)
 · rcases List.mem_append.mp hz with h | h
   · exact x.rch z h
   · exact List.mem_singleton.mp h▸.step (x.rch p hp) a o
 · rcases x.cl p' q' hp' a' o' with h' | h'
   · exact .inl (List.mem_append_left _ h')
   · rcases h p' q' h' with h' | h'
     · exact .inr h'
     · exact .inl (h'▸List.mem_append_right _ (.head _))
theorem Df.fin(x:Df ok st S C (fun _ _=>False))(h:∀ p∈S,C p)(k:Key):k∈S↔Rch ok st k:=by
 refine ⟨x.rch k,fun w=>?_⟩
 induction w with
 | start h=>exact x.here _ h
 | step _ a o ih=>exact (x.cl _ _ (h _ ih) a o).resolve_right id
end
noncomputable def okL(hg:Key->Option Int)(h:Int)(q:Key):Prop:=∃ b,hg q=some b/\b<=h
noncomputable def I1(hg:Key->Option Int)(D:Key->Prop)(r c:Nat)(h:Int):List Key:=I0 r c (Rch (okL hg h) fun k=>D k/\okL hg h k)
theorem Aeh{hg:Key->Option Int}{D:Key->Prop}{r c:Nat}{h:Int}:(I1 hg D r c h).length<=r * c:=by
 unfold I1 I0
 refine zC (List.length_filter_le _ _) ?_
 rw [Ff];exact zI _
theorem Lv.reach{hg F:Key->Option Int}{D:Key->Prop}(lv:Lv hg D F){h:Int}{k:Key}:(∃ f,F k=some f/\f<=h)↔Rch (okL hg h) (fun k=>D k/\okL hg h k) k:=by
 constructor
 · rintro ⟨f,hf,le⟩
   have:=lv.snd k f hf
   clear hf
   induction this with
   | drain d e=>exact .start ⟨d,_,e,le⟩
   | step r n e ih=>exact .step (ih (Int.le_trans (Ain _ _) le)) n ⟨_,e,Int.le_trans (Aim _ _) le⟩
 · intro x
   have:∃ f,Rc hg D k f/\f<=h:=by
    induction x with
    | start s=>refine Ac s fun d zz=>ex1 zz fun b zz=>Ac zz fun e le=>?_;exact ⟨b,.drain d e,le⟩
    | step _ n o ih =>
     refine ex1 ih fun f zz=>Ac zz fun hf le=>?_
     refine ex1 o fun b zz=>Ac zz fun e lb=>?_
     exact ⟨_,.step hf n e,Agi lb le⟩
   refine ex1 this fun f zz=>Ac zz fun hf le=>?_
   refine ex1 (lv.low k f hf) fun f' zz=>Ac zz fun h1 h2=>?_
   exact ⟨f',h1,Int.le_trans h2 le⟩
noncomputable def Agp(F:Key->Option Int)(h:Int)(k:Key):Bool:=match F k with
 | some f=>decide (f<=h)
 | none=>false
open Classical in
theorem Lv.due_is{hg F:Key->Option Int}{D:Key->Prop}(lv:Lv hg D F){r c:Nat}{h:Int}:(Fq r c).filter (Agp F h)=I1 hg D r c h:=by
 unfold I1 I0
 refine List.filter_congr fun k _=>?_
 have:Agp F h k=true↔∃ f,F k=some f/\f<=h:=by
  unfold Agp
  cases F k with
  | none=>exact ⟨(fun h=>nomatch h),(fun ⟨_,h,_⟩=>nomatch h)⟩
  | some f=>exact ⟨fun h=>⟨f,rfl,of_decide_eq_true h⟩,fun ⟨g,e,l⟩=>by cases e;exact decide_eq_true l⟩
 rw [Bool.eq_iff_iff,this,lv.reach,decide_eq_true_iff]
section
variable{T:Tab}{Φ:Funs}{Γ:Env'}{H K:Hp}{Q:Val->Hp->Prop}{E:Nat->Hp->Prop}{d:Nat}{QS:Env'->Hp->Prop}{R:Val->Hp->Prop}{ES:Nat->Env'->Hp->Prop}{l r c m o lg b s ls:Nat}{g:List (List Val)}{es es0:List (Key × Val)}{v:Val}{F:Key->Option Int}
theorem Tg{fs:List (Nat × Val)}(hr:r<=30)(hc:c<=30)(L:LandAt H o r c lg b s ls g es0){i:Nat}(hi:Γ[i]?=some (some (.loc o)))(q:∀ m K,H.length<=m->Ext H K->K[m]?=some (.list ((cells r c).filter (inD es0)))->Q (.loc m) K) :
 wpE T_06 (Af T_06 (d+2)) (.umeth (.var i) 4 .nil) Γ H Q E:=by
 refine Ae fun G kG=>?_
 refine ex1 L.inst fun fs zz=>Ac zz fun f0 _=>?_
 refine kG ?_
 rw [Bx,wvr hi]
 show Wp (Cu T_06 (.loc o) 4) H _ _
 rw [Fe f0 (show T_06.meth 7 4=some 27 from rfl)]
 refine (Iw hr hc L).then ?_
 intro w K zz
 refine ex1 zz fun m zz=>Cl zz fun zr1 hm ex gm=>?_;subst zr1
 exact q m K hm ex gm
theorem Ko{h:Int}(og:OkG g r c)(hr:r<=30)(hc:c<=30)(hrc:r * c<=132)(LA:LandAt H o r c lg b s ls g es0)(hd:∀ k,Ab k∈(cells r c).filter (inD es0)->∃ a,hgt g r c k=some a)(h0:0<=h)(h1:h<=1000000000) :
 Wp (Af T_06 (d+6) 7 [.loc o,.int h]) H (fun v K=>∃ m,v=.loc m/\H.length<=m/\Ext H K/\K[m]?=some (.list ((I1 (hgt g r c) (fun k=>Ab k∈(cells r c).filter (inD es0)) r c h).map Ab))) NoE:=by
 refine Ae fun G kG=>?_
 refine ex1 LA.inst fun fs zz=>Cl zz fun f0 f1 f2 _=>?_
 refine kG ?_
 rw [At (g:=We) rfl rfl]
 unfold We
 show wpSs T_06 (Af T_06 (d+5)) (.cons _ _) [some (.loc o),some (.int h),none] H _ _ _
 rw [Ak,Bm,Dk,Ax,wcv (v:=.int h) rfl,Ah,A3,Ah,wp_glob,Px,C5,Aq,Iy,decide_eq_true ⟨h0,h1⟩]
 show wpE T_06 (Af T_06 (d+5)) (.sub (.call 6 (.cons (.var 0) .nil)) (.int 0)) [some (.loc o),some (.int h),none] H _ _
 rw [A7,Ax,wcv (v:=.loc o) rfl,Aq]
 refine (W2 og hr hc hrc LA hd).then ?_
 intro u K zz
 refine ex5 zz fun lf lo es gs F zz=>Lx zz fun zr5 ex gl _ hes lv=>?_;subst zr5
 rw [A3,Fb,<- lv.due_is]
 show wpE T_06 (Af T_06 (d+5)) (.comp (.var 3) _ (.some _)) [some (.loc o),some (.int h),some (.loc lf)] K _ _
 have e1:Ext K (K++[HObj.list (cells r c)]):=⟨_,rfl⟩
 refine M9 (K0:=K++[HObj.list (cells r c)]) (l:=K.length) (ks:=Fq r c) (p:=Agp F h) rfl (by rw [Au,Gl]) (by rw [Ff];exact Aj1 hrc) ?_ (fun q _=>?_) ⟨_,rfl,zC ex.len e1.len,(ex.trans e1).new _,Au _ _⟩
 · rw [Ax,Ah,wat rfl (ex.get f0) f1,Ah,wat rfl (ex.get f0) f2,Aq]
   exact (Om hr hc)
 · rw [F6,Bf]
   show Er (D2 .isin (.tup [.int q.1,.int q.2]) (.loc lf) _) _
   rw [B9 (W4 (e1.get gl)),Ai,show (Fj es (q.1,q.2)).isSome=(F q).isSome from Z1 hes]
   unfold Agp
   cases hf:F q with
   | none=>exact ⟨rfl,rfl⟩
   | some f =>
    show brB true _ _
    rw [Ct,Bf]
    show Wp (Dm (.loc lf) (.tup [.int q.1,.int q.2])) _ _ _
    rw [M6 (e1.get gl) (show Fj es (q.1,q.2)=some (.int f) by rw [show Fj es (q.1,q.2)=(F q).map Val.int from hes q,hf];rfl)]
    rw [wvr (v:=.int h) rfl,Oe]
    exact ⟨rfl,rfl⟩
theorem Nc{v:Val}(no:∀ {Q:Val->Hp->Prop} {E:Nat->Hp->Prop},Wp (Af T_06 (d+5) 0 [v,.int 0,.int 1000000000]) H Q E=Q (.bool false) H):Wp (Af T_06 (d+6) 7 [.loc o,v]) H (fun _ _=>False) (fun e K=>e=2/\H=K):=by
 rw [At (g:=We) rfl rfl]
 unfold We
 show wpSs T_06 (Af T_06 (d+5)) (.cons _ _) [some (.loc o),some v,none] H _ _ _
 rw [Ak,Bm,Dk,Ax,wcv (v:=v) rfl,Ah,A3,Ah,wp_glob,Px,C5,Aq,no]
 exact ⟨rfl,rfl,rfl⟩
end
section
variable{T:Tab}{Φ:Funs}{Γ:Env'}{H K:Hp}{Q:Val->Hp->Prop}{E:Nat->Hp->Prop}{d:Nat}{QS:Env'->Hp->Prop}{R:Val->Hp->Prop}{ES:Nat->Env'->Hp->Prop}{l r c m o lg b s ls:Nat}{g:List (List Val)}{es es0 gs:List (Key × Val)}{v:Val}{F:Key->Option Int}{D:List Val}
theorem Xa(hS:OkS r c)(og:OkG g r c)(hrc:r * c<=132)(LA:LandAt H o r c lg b s ls g es0)(hd:∀ k,Ab k∈(cells r c).filter (inD es0)->∃ a,hgt g r c k=some a) :
 Wp (Af T_06 (d+7) 17 [.loc o]) H (fun _ K=>Ext H K) NoE:=by
 unfold OkS at hS
 rw [At (g:=Aa5) rfl rfl]
 show wpSs T_06 (Af T_06 (d+6)) _ [some (.loc o),none] H _ _ _
 obtain ⟨I,hI⟩:=Gc (fun (n:Nat) (Γ:Env') (K:Hp)=>Ext H K/\∃ x,Γ=[some (.loc o),x])
 refine Dt (I 3) ?_ ?_
 · refine D1 ?_
   refine Cn I ((hI _ _ _).mpr ⟨Ext.refl _,_,rfl⟩) (fun Γ K h=>h) (fun _ _ _ _ _=>rfl) ?_
   intro n z Γ K hz h
   refine Ae fun G kG=>?_
   refine Ac ((hI _ _ _).mp h) fun ex zz=>ex1 zz fun x zr2=>?_;subst zr2
   have iz:∀ v∈[Val.int 0,Val.int 7,Val.int 1000000000],∃ z,v=.int z/\0<=z/\z<=1000000000:=fc ⟨_,rfl,by decide,by decide⟩ (fc ⟨_,rfl,by decide,by decide⟩ (fc ⟨_,rfl,by decide,by decide⟩ fcn))
   refine ex1 (iz z (zF hz)) fun z zz=>Ap zz fun zr1 z0 z1=>?_;subst zr1
   refine kG ?_
   refine ⟨_,rfl,?_⟩
   refine Dx (fun K=>Ext H K) ?_ fun K e=>(hI _ _ _).mpr ⟨e,_,rfl⟩
   rw [Pt,Ax,wcv (v:=.loc o) rfl,wcv (v:=.int z) rfl]
   refine (Ko (d:=d) og hS.2.1 hS.2.2.2 hrc (LA.ext ex) hd z0 z1).then ?_
   intro v K' zz
   refine ex1 zz fun m zz=>Cl zz fun zr1 hm e gm=>?_;subst zr1
   rw [Lq gm]
   exact Rj gm ((ex.trans e).set (zC ex.len hm) _)
 · intro Γ K h
   refine Ae fun G kG=>?_
   refine Ac ((hI _ _ _).mp h) fun ex zz=>ex1 zz fun x zr2=>?_;subst zr2
   refine kG ?_
   refine Tg (d:=d+4) (fs:=[]) hS.2.1 hS.2.2.2 (LA.ext ex) rfl fun m K' hm e gm=>?_
   rw [Lq gm]
   exact Rj gm ((ex.trans e).set (zC ex.len hm) _)
theorem Kp{i:Nat}{ss:MSs}(hi:Γ[i]?=some (some (.loc o)))(hS:OkS r c)(og:OkG g r c)(hrc:r * c<=132)(LA:LandAt H o r c lg b s ls g es0)(hd:∀ k,Ab k∈(cells r c).filter (inD es0)->∃ a,hgt g r c k=some a)
 (q:∀ K,Ext H K->wpSs T_06 (Af T_06 (d+7)) ss Γ K QS R ES):wpSs T_06 (Af T_06 (d+7)) (.cons (.expr (.call 17 (.cons (.var i) .nil))) ss) Γ H QS R ES:=by
 refine Dx (fun K=>Ext H K) ?_ q
 rw [Ax,wcv hi]
 exact Xa hS og hrc LA hd
theorem Rr(k:Key):¬Ab k∈(cells r c).filter (inD []):=fun h=>by cases (List.mem_filter.mp h).2
theorem Z7{x:Val}(hS:OkS r c)(LA:LandAt H o r c lg b s ls g [((0,0),x)]) :
 Wp (Af T_06 (d+4) 36 [.loc o,.tup [.int 0,.int 0]]) H (fun v K=>K=H.set ls (.dict [])) NoE:=by
 unfold OkS at hS
 refine Ae fun G kG=>?_
 refine ex1 LA.inst fun fs zz=>Ep zz fun h0 h1 h2 h3 h4=>?_
 refine kG ?_
 rw [At (g:=Abe) rfl rfl]
 refine Dx (fun H'=>H'=H) (Jn (i:=0) (j:=0) (P:=fun K=>K=H) h0 (Jm (by exact Agw hS) (by exact Aj2 hS) LA) rfl rfl rfl) ?_
 intro K e
 rw [e]
 clear e K
 rw [Ak,Bm,Bf,wvr (v:=.tup [.int 0,.int 0]) rfl,wat rfl h0 h4,Ix LA.sinks]
 show wpSs T_06 _ _ _ H _ _ _
 rw [Cb,Ak,Gi,Pt,wat rfl h0 h4,B9 (show Fr .dpop (.loc ls) H=some () from if_pos (Ts LA.sinks)),Ah,A2]
 refine Wp.of_eq (a:=x) (H':=H.set ls (.dict [])) ?_ rfl
 unfold bmV
 simp only [LA.sinks]
 rfl
theorem Th{w:List Val}{h:Val}(hS:OkS r c)(og:OkG g r c)(LA:LandAt H o r c lg b s ls g [])(hw:g[0]?=some w)(hh:HV h) :
 Wp (Af T_06 (d+4) 18 [.loc o,.tup [.int 0,.int 0],h]) H (fun v K=>K=H.set (b+s * 0) (.list (w.set 0 h))) NoE:=by
 unfold OkS at hS
 refine ex1 LA.inst fun fs zz=>Ep zz fun h0 h1 h2 h3 h4=>?_
 have rr:=LA.grid.row 0 w hw
 have lw:=(og.row 0 w hw).1
 have hne:o≠b+s * 0:=Bk h0 rr (fun e=>nomatch e)
 have hns:ls≠b+s * 0:=Bk LA.sinks rr (fun e=>nomatch e)
 rw [At (g:=Aa6) rfl rfl]
 refine Dx (fun H'=>H'=H) (Jn (i:=0) (j:=0) (P:=fun K=>K=H) h0 (Jm (by exact Agw hS) (by exact Ahh hS lw) LA) rfl rfl rfl) ?_
 intro K e
 rw [e]
 clear e K
 refine Gw (fun K=>K=H) ?_ ?_
 · rw [Dk,Ax,wcv (v:=h) rfl,Aq,Lr hh]
   exact ⟨rfl,rfl⟩
 intro K e
 rw [e]
 clear e K
 rw [Ak,Cd,wvr (v:=h) rfl,A7,wat rfl h0 h3]
 show Wp (Dm (.loc lg) (.int ((0:Nat):Int))) H _ _
 rw [Cz LA.grid.top (LA.grid.item (List.getElem?_eq_some_iff.mp hw).1)]
 show Wp (A4 (.loc (b+s * 0)) (.int 0) h) H _ _
 rw [Kk rr (by decide) (by exact Aj3 hS lw)]
 have k0:(H.set (b+s * 0) (.list (w.set (0:Int).toNat h)))[o]?=some (.inst 7 fs):=Ar _ (Ne.symm hne) h0
 have ks:(H.set (b+s * 0) (.list (w.set (0:Int).toNat h)))[ls]?=some (.dict []):=Ar _ (Ne.symm hns) LA.sinks
 rw [Ak,Bm,F6,Bf,wvr (v:=h) rfl,E9]
 rcases hh with rfl | ⟨i,rfl,_⟩
 · show wpE T_06 _ _ _ _ _ _
   rw [Bf,wvr (v:=.tup [.int 0,.int 0]) rfl,wat rfl k0 h4,Wu ks]
   exact rfl
 · exact rfl
end
theorem GAt.put{H:Hp}{l b s:Nat}{g:List (List Val)}(G:GAt H l b s g)(hs:1<=s){a:Nat}(hl:b+s * a≠l)(ha:a < g.length)(w:List Val):GAt (H.set (b+s * a) (.list w)) l b s (g.set a w):=by
 refine ⟨?_,fun i r h=>?_⟩
 · rw [List.length_set]
   exact Ar _ hl G.top
 · by_cases c:i=a
   · subst c
     rw [List.getElem?_set_self ha] at h
     cases h
     exact Bz _ (G.row i _ (List.getElem?_eq_getElem ha))
   · rw [List.getElem?_set_ne (fun e=>c e.symm)] at h
     refine Ar _ (fun e=>c ?_) (G.row i r h)
     have e:s * a=s * i:=by exact Asw e
     exact (Nat.eq_of_mul_eq_mul_left (by exact Ahb hs) e).symm
theorem LandAt.put{H:Hp}{o r c lg b ls:Nat}{g:List (List Val)}{es:List (Key × Val)}(L:LandAt H o r c lg b 1 ls g es){w:List Val}(hw:g[0]?=some w)(hl:b+1 * 0≠lg)(w':List Val):LandAt (H.set (b+1 * 0) (.list w')) o r c lg b 1 ls (g.set 0 w') es:=by
 refine ex1 L.inst fun fs zz=>Ac zz fun h0 hf=>?_
 have hr:=L.grid.row 0 w hw
 exact ⟨⟨fs,Ar _ (Bk hr h0 fun e=>nomatch e) h0,hf⟩,L.grid.put (zI 1) hl (List.getElem?_eq_some_iff.mp hw).1 w',Ar _ (Bk hr L.sinks fun e=>nomatch e) L.sinks⟩
theorem OkG.first{g:List (List Val)}{r c:Nat}(og:OkG g r c){w:List Val}(hw:g[0]?=some w){x:Val}(hx:HV x):OkG (g.set 0 (w.set 0 x)) r c:=by
 refine ⟨by rw [List.length_set];exact og.len,fun i u hu=>?_⟩
 cases i with
 | zero =>
  rw [List.getElem?_set_self (List.getElem?_eq_some_iff.mp hw).1] at hu
  cases hu
  obtain ⟨h1,h2⟩:=og.row 0 w hw
  refine ⟨by rw [List.length_set];exact h1,fun v hv=>?_⟩
  rcases List.mem_or_eq_of_mem_set hv with h | h
  · exact h2 v h
  · rw [h];exact hx
 | succ i =>
  rw [List.getElem?_set_ne (by exact Aj4)] at hu
  exact og.row (i+1) u hu
theorem Nd{α:Type}{w:List α}{x y:α}(h:w[0]?=some x):(w.set 0 y).set 0 x=w:=by
 rw [List.set_set]
 refine List.ext_getElem? fun i=>?_
 cases i with
 | zero=>rw [List.getElem?_set_self (List.getElem?_eq_some_iff.mp h).1,h]
 | succ i=>rw [List.getElem?_set_ne (by exact Aj4)]
section
variable{T:Tab}{Φ:Funs}{Γ:Env'}{H K:Hp}{Q:Val->Hp->Prop}{E:Nat->Hp->Prop}{d:Nat}{QS:Env'->Hp->Prop}{R:Val->Hp->Prop}{ES:Nat->Env'->Hp->Prop}{l r c m o lg b s ls:Nat}{g:List (List Val)}{es es0 gs:List (Key × Val)}{v:Val}{F:Key->Option Int}{D:List Val}
theorem Nf{i mm k n:Nat}{es:MEs}{P:Val->Hp->Prop}(LA:LandAt H o r c lg b s ls g es0)(hi:Γ[i]?=some (some (.loc o)))(hm:T_06.meth 7 mm=some k){vs:List Val}(he:∀ {Q:List Val->Hp->Prop} {E:Nat->Hp->Prop},Q vs H->wpEs T_06 (Af T_06 n) es Γ H Q E)(h:Wp (Af T_06 n k (.loc o :: vs)) H P NoE) :
 wpE T_06 (Af T_06 n) (.umeth (.var i) mm es) Γ H P NoE:=by
 refine ex1 LA.inst fun fs zz=>Ac zz fun f0 _=>?_
 rw [Bx,wvr hi]
 show Wp (Cu T_06 (.loc o) mm) H _ _
 rw [Fe f0 hm]
 exact he h
theorem Ti{ss:MSs}{x1:Val}(hS:OkS r c)(og:OkG g r c)(hrc:r * c<=132)(G:GAt H l b s g)
 (q:∀ o lg b' ls K,Ext H K->H.length<=ls->LandAt K o r c lg b' 1 ls g []->∀ x2,wpSs T_06 (Af T_06 (d+7)) ss [some (.loc l),some x1,some x2,some (.loc o),none] K QS R ES) :
 wpSs T_06 (Af T_06 (d+7)) (.cons (.assign 2 (.comp (.bf .list (.cons (.var 5) .nil)) (.var 0) .none)) (.cons (.setitem (.sub (.var 2) (.int 0)) (.int 0) (.int 7)) (.cons (.assign 3 (.new 7 (.cons (.var 2) .nil))) (.cons (.expr (.umeth (.var 3) 3 (.cons (.tup (.cons (.int 0) (.cons (.int 0) .nil))) .nil))) (.cons (.expr (.call 17 (.cons (.var 3) .nil))) (.cons (.expr (.umeth (.var 3) 12 (.cons (.tup (.cons (.int 0) (.cons (.int 0) .nil))) .nil))) (.cons (.expr (.call 17 (.cons (.var 3) .nil))) (.cons (.expr (.umeth (.var 3) 11 (.cons (.tup (.cons (.int 0) (.cons (.int 0) .nil))) (.cons (.sub (.sub (.var 0) (.int 0)) (.int 0)) .nil)))) (.cons (.expr (.call 17 (.cons (.var 3) .nil))) ss)))))))))
  [some (.loc l),some x1,none,none,none] H QS R ES:=by
 have hS':=hS
 unfold OkS at hS'
 obtain ⟨w,x,hw,hx,vx,lw,it,hb⟩:=Akh hS og G
 have og1:=og.first hw (x:=.int 7) (.inr ⟨7,rfl,by decide,by decide⟩)
 have gl:=og.len
 have hw1:(g.set 0 (w.set 0 (.int 7)))[0]?=some (w.set 0 (.int 7)):=List.getElem?_set_self (List.getElem?_eq_some_iff.mp hw).1
 have hx1:(w.set 0 (.int 7))[0]?=some (.int 7):=List.getElem?_set_self (List.getElem?_eq_some_iff.mp hx).1
 refine Ay (fun u K=>u=.loc (H.length+g.length)/\Ext H K/\GAt K (H.length+g.length) H.length 1 g) ?_ ?_
 · exact Py (l:=l) (b:=b) (s:=s) (g:=g) rfl G (by rw [gl];show r < 16777216;exact Ajl hS' gl) ⟨rfl,rfl⟩ fun K e GK _=>⟨rfl,e,GK⟩
 rintro u K1 ⟨rfl,e1,G1⟩
 show Wp (Dm (.loc (H.length+g.length)) (.int ((0:Nat):Int))) K1 _ _
 rw [Cz G1.top (G1.item (List.getElem?_eq_some_iff.mp hw).1),A3,Kk (G1.row 0 w hw) (by decide) (by exact Aj3 hS' lw)]
 show wpSs T_06 _ _ _ (K1.set (H.length+1 * 0) (.list (w.set 0 (.int 7)))) _ _ _
 have G2:=G1.put (zI 1) (show H.length+1 * 0≠H.length+g.length by exact Asx hS' gl) (List.getElem?_eq_some_iff.mp hw).1 (w.set 0 (.int 7))
 have e2:Ext H (K1.set (H.length+1 * 0) (.list (w.set 0 (.int 7)))):=e1.set (zM _ _) _
 generalize K1.set (H.length+1 * 0) (.list (w.set 0 (.int 7)))=K2 at G2 e2
 clear G1 e1
 refine Ay (fun u K=>∃ o lg b' ls,u=.loc o/\Ext H K/\LandAt K o r c lg b' 1 ls (g.set 0 (w.set 0 (.int 7))) []/\H.length<=ls/\H.length<=b'/\lg=b'+r) ?_ ?_
 · skip
   refine (Ad1 (d:=d+4) hS og1 G2).then ?_
   intro u K3 zz
   obtain ⟨rfl,e3,lg,b',ls,L,h1,h2,h3⟩:=zz
   exact ⟨_,lg,b',ls,rfl,e2.trans e3,L,zC e2.len (zL h3),zC e2.len (zL h1),h2⟩
 clear G2 e2
 intro u K3 zz
 obtain ⟨o,lg,b',ls,rfl,e3,L3,bl,bb,hlg⟩:=zz
 have hne:b'+1 * 0≠lg:=by exact Asy hS' hlg gl
 refine Dx (fun K=>Ext H K/\LandAt K o r c lg b' 1 ls (g.set 0 (w.set 0 (.int 7))) [((0,0),.bool true)]) ?_ ?_
 · refine Nf L3 rfl (show T_06.meth 7 3=some 26 from rfl) (vs:=[.tup [.int 0,.int 0]]) (fun h=>h) ?_
   refine (Ls (d:=d+3) (i:=0) (j:=0) (by exact Aj5 hS' hlg gl) (by exact Ahh hS' lw) L3 hw1 hx1 (by decide)).then ?_
   rintro v K ⟨_,e⟩
   rw [e]
   exact ⟨e3.set bl _,L3.sink⟩
 clear e3 L3 K3
 rintro K4 ⟨e4,L4⟩
 have hd7:∀ k,Ab k∈(cells r c).filter (inD [((0,0),.bool true)])->∃ a,hgt (g.set 0 (w.set 0 (.int 7))) r c k=some a:=fun k hk=>by
  have h1:(Fj [(((0:Int),(0:Int)),Val.bool true)] k).isSome=true:=(List.mem_filter.mp hk).2
  have e:k=(0,0):=by
   by_cases q:k=(0,0)
   · exact q
   · have:(k == ((0:Int),(0:Int)))=false:=by simpa using q
     rw [show Fj [(((0:Int),(0:Int)),Val.bool true)] k=none by unfold Fj;rw [List.lookup_cons,this];rfl] at h1
     exact nomatch h1
  refine Eq.symm e▸?_
  obtain ⟨u,y,hu,hy,hc⟩:=Ib (i:=0) (j:=0) og1 (by exact Aj5 hS' hlg gl) (by exact Ahh hS' lw)
  rw [hw1] at hu
  cases hu
  rw [hx1] at hy
  cases hy
  rcases hc with ⟨h,_⟩ | ⟨n,_,_,h⟩
  · cases h
  · exact ⟨n,h⟩
 refine Kp rfl hS og1 hrc L4 hd7 fun K5 e5=>?_
 refine Dx (fun K=>Ext H K/\LandAt K o r c lg b' 1 ls (g.set 0 (w.set 0 (.int 7))) []) ?_ ?_
 · refine Nf (L4.ext e5) rfl (show T_06.meth 7 12=some 36 from rfl) (vs:=[.tup [.int 0,.int 0]]) (fun h=>h) ?_
   refine (Z7 (d:=d+3) hS (L4.ext e5)).then ?_
   intro v K e
   rw [e]
   exact ⟨(e4.trans e5).set bl _,(L4.ext e5).sink⟩
 clear e4 L4 hd7 e5 K5 K4
 rintro K6 ⟨e6,L6⟩
 refine Kp rfl hS og1 hrc L6 (fun k h=>(Rr k h).elim) fun K7 e7=>?_
 refine Dx (fun K=>Ext H K/\LandAt K o r c lg b' 1 ls g []) ?_ ?_
 · refine Nf (L6.ext e7) rfl (show T_06.meth 7 11=some 18 from rfl) (vs:=[.tup [.int 0,.int 0],x]) (fun {Q E} h=>?_) ?_
   · skip
     show Wp (Dm (.loc l) (.int ((0:Nat):Int))) K7 _ _
     rw [Cz ((e6.trans e7).get G.top) it]
     show Wp (Dm (.loc b) (.int ((0:Nat):Int))) K7 _ _
     rw [Cz ((e6.trans e7).get hb) hx]
     exact h
   · refine (Th (d:=d+3) hS og1 (L6.ext e7) hw1 vx).then ?_
     intro v K e
     rw [e]
     have L8:=(L6.ext e7).put hw1 hne ((w.set 0 (.int 7)).set 0 x)
     rw [Nd hx,Nd hw] at L8
     rw [Nd hx]
     exact ⟨(e6.trans e7).set (zC bb (zM _ _)) _,L8⟩
 clear e6 L6 e7 K7 K6
 rintro K8 ⟨e8,L8⟩
 refine Kp rfl hS og hrc L8 (fun k h=>(Rr k h).elim) fun K9 e9=>?_
 exact q o lg b' ls K9 (e8.trans e9) bl (L8.ext e9) _
theorem Z8{ks:List Key}(hS:OkS r c)(og:OkG g r c)(hrc:r * c<=132)(G:GAt H l b s g)(hm:H[m]?=some (.list (ks.map Ab)))(hk:∀ k∈ks,∃ a,hgt g r c k=some a)(kl:ks.length < 1000) :
 Wp (Af T_06 (d+8) 15 [.loc l,.loc m]) H (fun v H'=>∃ o lg b' ls es,v=.loc o/\Ext H H'/\LandAt H' o r c lg b' 1 ls g es/\∀ k,inD es (Ab k)=true↔k∈ks) NoE:=by
 rw [At (g:=Aa3) rfl rfl]
 refine Ti (d:=d) hS og hrc G fun o lg b' ls K e h4 L x2=>?_
 clear G hS
 obtain ⟨I,hI⟩:=Gc (fun (n:Nat) (Γ:Env') (K:Hp)=>∃ es a,Γ=[some (.loc l),some (.loc m),some x2,some (.loc o),a]/\Ext H K/\LandAt K o r c lg b' 1 ls g es/\(∀ k,inD es (Ab k)=true↔k∈ks.take n)/\es.length<=n)
 refine Dt (I ks.length) ?_ ?_
 · apply D1
   show Er (C0 (.loc m) K) _
   rw [B9 (Cf (e.get hm))]
   show WpS (Fm (chk (some m) (ks.map Ab)) (Rw 4) _ (ks.map Ab) _ _) _ _ _
   refine Cn I ((hI _ _ _).mpr ⟨[],none,rfl,e,L,(fun k=>⟨(fun h=>nomatch h),(fun h=>nomatch h)⟩),zI _⟩) ?_ ?_ ?_
   · intro Γ K h
     rw [List.length_map] at h;exact h
   · intro n Γ K _ h
     refine Ae fun G kG=>?_
     refine ex2 ((hI _ _ _).mp h) fun es a zz=>Ap zz fun _ eK _=>?_
     refine kG ?_
     exact Cj (eK.get hm)
   · clear L e
     intro n z Γ K hz h
     refine Ae fun G kG=>?_
     refine ex2 ((hI _ _ _).mp h) fun es a zz=>Ep zz fun zr2 eK LK hes el=>?_;subst zr2
     refine ex1 (Km hz) fun q zz=>Ac zz fun hq zr2=>?_;subst zr2
     have ln:=(List.getElem?_eq_some_iff.mp hq).1
     obtain ⟨y,hy⟩:=hk q (zF hq)
     refine ex2 (Ha (I8 hy)) fun i j zz=>Ap zz fun zr2 hi hj=>?_;subst zr2
     refine ex2 (Ib og hi hj) fun w x zz=>Ap zz fun hw hx hcase=>?_
     refine kG ?_
     rcases hcase with ⟨_,hn⟩ | ⟨a',rfl,ha0,ha'⟩
     · rw [hn] at hy;exact nomatch hy
     refine ⟨_,rfl,?_⟩
     refine Dx _ (Nf LK rfl (show T_06.meth 7 3=some 26 from rfl) (vs:=[.tup [.int (i:Int),.int (j:Int)]]) (fun h=>h) ((Ls (d:=d+3) hi hj LK hw hx (show es.length < 16777216 by exact Asz kl ln el)).then fun v K e=>e.2)) ?_
     intro K2 e2
     rw [e2]
     refine (hI _ _ _).mpr ⟨_,_,rfl,eK.set h4 _,LK.sink,fun k=>?_,zC (Ia _ _ _) (Nat.succ_le_succ el)⟩
     rw [Aea,hes,B5 hq]
 intro Γ K h
 refine Ae fun G kG=>?_
 refine ex2 ((hI _ _ _).mp h) fun es a zz=>Ep zz fun zr2 eK LK hes _=>?_;subst zr2
 refine kG ?_
 rw [List.take_length] at hes
 exact ⟨o,lg,b',ls,es,rfl,eK,LK,hes⟩
end
section
variable{T:Tab}{Φ:Funs}{H K:Hp}{d:Nat}{l b s r c:Nat}{g:List (List Val)}{Q:Val->Hp->Prop}{E:Nat->Hp->Prop}{QS:Env'->Hp->Prop}{R:Val->Hp->Prop}{h:Int}{st:Key->Prop}
theorem Xb{i j n:Nat}{w:List Val}{x:Val}{Γ:Env'}(h0:Γ[0]?=some (some (.loc l)))(hn:Γ[n]?=some (some (Ab ((i:Int),(j:Int)))))(G:GAt H l b s g)(hw:g[i]?=some w)(hx:w[j]?=some x)(q:Q x H):wpE T Φ (.sub (.sub (.var 0) (.sub (.var n) (.int 0))) (.sub (.var n) (.int 1))) Γ H Q E:=by
 rw [A7,A7,wvr h0,A7,wvr hn]
 show Wp (Dm (.loc l) (.int (i:Int))) H _ _
 rw [Cz G.top (G.item (List.getElem?_eq_some_iff.mp hw).1),A7,wvr hn]
 show Wp (Dm (.loc (b+s * i)) (.int (j:Int))) H _ _
 rw [Cz (G.row i w hw) hx]
 exact q
inductive BInv(H:Hp)(l fl r c:Nat)(ok st:Key->Prop)(C:List Key->Key->Prop)(O:Key->Key->Prop)(X:List Key->Hp->Prop)(x1 x2:Val)(x4:Option Val):Env'->Hp->Prop
 | mk {K:Hp} (ks:List Key) (x5:Option Val):Ext H K->K[fl]?=some (.list (ks.map Ab))->Df ok st ks (C ks) O->(∀ q∈ks,inR r c q=true)->X ks K ->
  BInv H l fl r c ok st C O X x1 x2 x4 [some (.loc l),some x1,some x2,some (.loc fl),x4,x5] K
theorem Z9{tl:Nat}{ob:HObj}{fl i j:Nat}{ks:List Key}{k:Nat}{x1:Val}{x5:Option Val}(hS:OkS r c)(og:OkG g r c)(hrc:r * c<=132)(G:GAt H l b s g)(ex:Ext H K)(bl:H.length<=fl)(hl:K[fl]?=some (.list (ks.map Ab)))(ht:K[tl]?=some ob)(hne:tl≠fl)(hk:ks[k]?=some ((i:Int),(j:Int)))(hi:i < r)(hj:j < c)
 (df:Df (okL (hgt g r c) h) st ks (fun p=>p∈ks.take k) (fun _ _=>False)) (inr:∀ q∈ks,inR r c q=true) (q:∀ Γ K,BInv H l fl r c (okL (hgt g r c) h) st (fun ks p=>p∈ks.take (k+1)) (fun _ _=>False) (fun _ K=>K[tl]?=some ob) x1 (.int h) (some (.int (k:Int))) Γ K->QS Γ K) :
 wpS T_06 (Af T_06 (d+1)) (.each 5 (.call 16 (.cons (.var 0) (.cons (.sub (.var 3) (.var 4)) .nil))) zT7)
  [some (.loc l),some x1,some (.int h),some (.loc fl),some (.int (k:Int)),x5] K QS R NoX:=by
 have hlid:lid=16777216:=rfl
 have hkl:=(List.getElem?_eq_some_iff.mp hk).1
 refine D1 ?_
 rw [Ax,wcv (v:=.loc l) rfl,Ah,wsv (v:=.loc fl) (w:=.int (k:Int)) rfl rfl,Cz hl (show (ks.map Ab)[k]?=some (Ab ((i:Int),(j:Int))) by rw [List.getElem?_map,hk];rfl),Aq]
 refine (P7 (d:=d) hS og (G.ext ex) hi hj).then ?_
 intro v K1 zz
 obtain ⟨m,rfl,bm,e1,hm⟩:=zz
 rw [B9 (Cf hm)]
 have hmem:∀ q,q∈(bes r c i j).filter (fun q=>(hgt g r c q).isSome)↔(Adj ((i:Int),(j:Int)) q/\hgt g r c q≠none):=fun q=>Z0
 generalize (bes r c i j).filter (fun q=>(hgt g r c q).isSome)=bs at hm hmem
 have lf:=Ce hl
 obtain ⟨I,hI⟩:=Gc (fun (n:Nat)=>BInv H l fl r c (okL (hgt g r c) h) st (fun ks p=>p∈ks.take (k+1)) (fun p q=>p=((i:Int),(j:Int))/\¬q∈bs.take n) (fun ks K=>K[m]?=some (.list (bs.map Ab))/\ks[k]?=some ((i:Int),(j:Int))/\K[tl]?=some ob) x1 (.int h) (some (.int (k:Int))))
 refine Cn I ((hI _ _ _).mpr (.mk ks _ (ex.trans e1) (e1.get hl) (df.imp fun p q hp a o=>?_) inr ⟨hm,hk,e1.get ht⟩)) ?_ ?_ ?_
 · rcases (B5 hk).mp hp with h | h
   · exact .inl ⟨h,fun h=>h.elim⟩
   · exact .inr ⟨h,fun h=>by rw [List.take_zero] at h;exact nomatch h⟩
 · intro Γ K2 h
   refine Ae fun G kG=>?_
   obtain ⟨ks2,z5,ex2,hl2,df2,inr2,_,_,ht2⟩:=(hI _ _ _).mp h
   refine kG ?_
   refine q _ _ (.mk ks2 z5 ex2 hl2 (df2.imp fun p q hp a o=>.inl ⟨hp,fun ⟨e,hn⟩=>?_⟩) inr2 ht2)
   rw [List.length_map,List.take_length] at hn
   obtain ⟨a',ha,_⟩:=o
   rw [e] at a
   exact hn ((hmem q).mpr ⟨a,fun w=>by rw [w] at ha;exact nomatch ha⟩)
 · intro n Γ K2 _ h
   obtain ⟨ks2,z5,ex2,hl2,df2,inr2,hm2,_⟩:=(hI _ _ _).mp h
   exact Cj hm2
 · intro n v Γ K2 hv hn0
   obtain ⟨ks2,z5,ex2,hl2,df2,inr2,hm2,hk2,ht2⟩:=(hI _ _ _).mp hn0
   obtain ⟨z,hz,rfl⟩:=Km hv
   obtain ⟨az,iz⟩:=(hmem z).mp (zF hz)
   obtain ⟨a,ha⟩:∃ a,hgt g r c z=some a:=by cases e:hgt g r c z with
    | none=>exact absurd e iz
    | some a=>exact ⟨a,rfl⟩
   have inz:=I8 ha
   obtain ⟨i',j',rfl,hi',hj'⟩:=Ha inz
   obtain ⟨w,y,hw,hy,hcase⟩:=Ib og hi' hj'
   rcases hcase with ⟨_,hn⟩ | ⟨a',rfl,_,ha'⟩
   · rw [hn] at ha;exact nomatch ha
   have ea:a'=a:=by rw [ha] at ha';exact (Option.some.inj ha').symm
   subst ea
   have kl2:ks2.length<=r * c:=Na df2.nd fun q hq=>Fg.mpr (inr2 q hq)
   refine ⟨_,rfl,?_⟩
   show wpSs T_06 (Af T_06 (d+1)) _ [some (.loc l),some x1,some (.int h),some (.loc fl),some (.int (k:Int)),some (Ab ((i':Int),(j':Int)))] K2 _ _ _
   have stay:(((i':Int),(j':Int))∈ks2\/¬a'<=h)->I (n+1) [some (.loc l),some x1,some (.int h),some (.loc fl),some (.int (k:Int)),some (Ab ((i':Int),(j':Int)))] K2:=fun hno=>by
    refine (hI _ _ _).mpr (.mk ks2 _ ex2 hl2 ⟨df2.nd,df2.rch,df2.here,fun p' q' hp' a2 o'=>?_⟩ inr2 ⟨hm2,hk2,ht2⟩)
    rcases df2.cl p' q' hp' a2 o' with h | ⟨e,hn⟩
    · exact .inl h
    · by_cases e2:q'=((i':Int),(j':Int))
      · rw [e2] at o' ⊢
        rcases hno with h | h
        · exact .inl h
        · obtain ⟨a3,h3,l3⟩:=o'
          rw [ha] at h3
          cases h3
          exact absurd l3 h
      · exact .inr ⟨e,fun h=>((B5 hz).mp h).elim hn e2⟩
   rw [Ak,Bm,F6,Bf]
   refine Xb rfl rfl (G.ext ex2) hw hy ?_
   rw [wvr (v:=.int h) rfl,Oe,Ai]
   by_cases lo:a'<=h
   · rw [C6 lo,Bf,wvr (v:=Ab ((i':Int),(j':Int))) rfl,wvr (v:=.loc fl) rfl,B9 (Td hl2),Ai,F5]
     refine Dj (fun m1=>?_) fun m1=>?_
     · exact stay (.inl (of_decide_eq_true m1))
     have nm:¬((i':Int),(j':Int))∈ks2:=of_decide_eq_false m1
     refine Dd rfl hl2 ?_
     rw [wvr (v:=Ab ((i':Int),(j':Int))) rfl]
     refine ⟨_,hl2,by rw [List.length_map];exact As0 hlid hrc kl2,(hI _ _ _).mpr (.mk (ks2++[((i':Int),(j':Int))]) _ (ex2.set bl _) (by rw [Bz _ hl2,List.map_append];rfl) ?_ (fun q hq=>?_) ⟨Ar _ (by exact Ajs lf bm) hm2,by rw [List.getElem?_append_left (List.getElem?_eq_some_iff.mp hk2).1];exact hk2,Ar _ (fun e=>hne e.symm) ht2⟩)⟩
     · have kl:=(List.getElem?_eq_some_iff.mp hk2).1
       rw [List.take_append_of_le_length (by exact o62 kl)]
       refine df2.push (zF hk2) az ⟨a',ha,lo⟩ nm fun p' q' ⟨e,hn⟩=>?_
       by_cases e2:q'=((i':Int),(j':Int))
       · exact .inr e2
       · exact .inl ⟨e,fun h=>((B5 hz).mp h).elim hn e2⟩
     · rcases List.mem_append.mp hq with h | h
       · exact inr2 q h
       · rw [List.mem_singleton.mp h];exact inz
   · rw [Ca lo]
     exact stay (.inr lo)
end
section
variable{T:Tab}{Φ:Funs}{H K:Hp}{d:Nat}{l b s r c:Nat}{g:List (List Val)}{Q:Val->Hp->Prop}{E:Nat->Hp->Prop}{QS:Env'->Hp->Prop}{R:Val->Hp->Prop}{h:Int}{st:Key->Prop}
theorem Aaa{n:Int}(h:n<=100000):Wp (bfV .list [.rng n]) H Q E=Q (.loc H.length) (H++[.list (Mv n)]):=by
 have:bfV .list [.rng n] H=M.alloc (.list (Mv n)) H:=if_pos h
 unfold Wp;rw [this];rfl
theorem Aei{Γ:Env'}(h0:Γ[0]?=some (some (.loc l)))(hS:OkS r c)(og:OkG g r c)(G:GAt H l b s g)(hrc:r * c<=132)(q:Q (.loc H.length) (H++[.list (Mv ((r * c:Nat):Int))])):wpE T Φ (.bf .list (.cons (.bf .range (.cons (.bin .mul (.bf .len (.cons (.var 0) .nil)) (.bf .len (.cons (.sub (.var 0) (.int 0)) .nil))) .nil)) .nil)) Γ H Q E:=by
 refine ex1 (Zy hS og G) fun w zz=>Ap zz fun h1 h2 lw=>?_
 unfold OkS at hS
 rw [Eb,Ah,Eb,Ah,Bv,wbf h0,Az G.top,Jo og (b:=b) (s:=s) (l:=l),Eb,Ah,A7,wvr h0]
 show Wp (Dm (.loc l) (.int ((0:Nat):Int))) H _ _
 rw [Cz G.top h1,Aq,Az h2,lw,I7]
 refine ⟨?_,?_⟩
 · rw [Ga (by exact As1 hS)];rfl
 rw [Aq,<- Int.natCast_mul,Gj]
 refine ⟨⟨by exact As2 hrc,by exact As3 hrc⟩,?_⟩
 rw [Aq,Aaa (by exact As4 hrc)]
 exact q
theorem Xc{ks:List Key}{m:Nat}(hS:OkS r c)(og:OkG g r c)(hrc:r * c<=132)(G:GAt H l b s g)(hm:H[m]?=some (.list (ks.map Ab)))(hd:∀ k∈ks,∃ a,hgt g r c k=some a)(nd:ks.Nodup) :
 Wp (Af T_06 (d+2) 21 [.loc l,.loc m,.int h]) H (fun v K=>∃ f,v=.loc f/\H.length<=f/\Ext H K/\K[f]?=some (.list ((I1 (hgt g r c) (fun k=>Ab k∈ks.map Ab) r c h).map Ab))) NoE:=by
 have kl:ks.length<=r * c:=Na nd fun q hq=>by obtain ⟨a,ha⟩:=hd q hq;exact Fg.mpr (I8 ha)
 rw [At (g:=Aa7) rfl rfl]
 refine Ay (fun v K=>v=.loc H.length/\K=H++[.list ((ks.filter (fun k=>match hgt g r c k with | some a=>decide (a<=h) | none=>false)).map Ab)]) ?_ ?_
 · refine M9 (K0:=H) (l:=m) (ks:=ks) rfl hm (by exact As5 hrc kl) ⟨rfl,rfl⟩ (fun q hq=>?_) ⟨rfl,rfl⟩
   obtain ⟨a,ha⟩:=hd q hq
   refine ex2 (Ha (I8 ha)) fun i j zz=>Ap zz fun zr2 hi hj=>?_;subst zr2
   refine ex2 (Ib og hi hj) fun w y zz=>Ap zz fun hw hy hcase=>?_
   rcases hcase with ⟨_,hn⟩ | ⟨a',rfl,_,ha'⟩
   · rw [hn] at ha;exact nomatch ha
   rw [Bf]
   refine Xb (Γ:=[some (.loc l),some (.loc m),some (.int h),none,none,none,some (Ab ((i:Int),(j:Int)))]) rfl rfl G hw hy ?_
   rw [wvr (v:=.int h) rfl,Oe,ha']
   exact ⟨rfl,rfl⟩
 have fm:∀ k,k∈ks.filter (fun k=>match hgt g r c k with | some a=>decide (a<=h) | none=>false)↔(Ab k∈ks.map Ab/\okL (hgt g r c) h k):=fun k=>by
  rw [List.mem_filter,Ou]
  refine ⟨fun ⟨h1,h2⟩=>⟨h1,?_⟩,fun ⟨h1,b,h2,h3⟩=>⟨h1,?_⟩⟩
  · obtain ⟨a,ha⟩:=hd k h1
    rw [ha] at h2
    exact ⟨a,ha,of_decide_eq_true h2⟩
  · rw [h2];exact decide_eq_true h3
 have fnd:=nd.sublist (List.filter_sublist (p:=fun k=>match hgt g r c k with | some a=>decide (a<=h) | none=>false))
 generalize ks.filter (fun k=>match hgt g r c k with | some a=>decide (a<=h) | none=>false)=k0 at fm fnd
 rintro v K ⟨rfl,rfl⟩
 have l0:(H++[HObj.list (k0.map Ab)]).length=H.length+1:=by rw [List.length_append];rfl
 have e0:Ext H (H++[HObj.list (k0.map Ab)]):=⟨_,rfl⟩
 have e1:Ext (H++[HObj.list (k0.map Ab)]) (H++[HObj.list (k0.map Ab)]++[HObj.list (Mv ((r * c:Nat):Int))]):=⟨_,rfl⟩
 have ht:(H++[HObj.list (k0.map Ab)]++[HObj.list (Mv ((r * c:Nat):Int))])[H.length+1]?=some (.list (Mv ((r * c:Nat):Int))):=by rw [<- l0];exact Au _ _
 have in0:∀ q∈k0,inR r c q=true:=fun q hq=>by refine Ac ((fm q).mp hq) fun _ zz=>ex1 zz fun b zz=>Ac zz fun hb _=>?_;exact I8 hb
 obtain ⟨I,hI⟩:=Gc (fun (k:Nat) (Γ:Env') (K:Hp)=>∃ x4,BInv H l H.length r c (okL (hgt g r c) h) (fun k=>Ab k∈ks.map Ab/\okL (hgt g r c) h k) (fun ks p=>p∈ks.take k) (fun _ _=>False) (fun _ K=>K[H.length+1]?=some (.list (Mv ((r * c:Nat):Int)))) (.loc m) (.int h) x4 Γ K)
 refine Dt (I (Mv ((r * c:Nat):Int)).length) ?_ ?_
 · refine W6 (l:=H.length+1) (K0:=H++[HObj.list (k0.map Ab)]++[HObj.list (Mv ((r * c:Nat):Int))]) I ?_ ht ((hI _ _ _).mpr ⟨_,.mk k0 _ (e0.trans e1) (e1.get (Au H _)) ((Df.start (O:=fun _ _=>False) fnd fm).imp fun p q hp=>nomatch hp) in0 ht⟩) ?_ ?_ (fun Γ K h=>h)
   · refine Aei rfl hS og (G.ext e0) hrc ?_
     rw [l0];exact ⟨rfl,rfl⟩
   · intro k Γ K h
     refine Ae fun G kG=>?_
     obtain ⟨x4,ks,x5,ex,hl,df,inr,ht⟩:=(hI _ _ _).mp h
     refine kG ?_
     exact ht
   · intro k x Γ K hx h
     obtain ⟨x4,ks,x5,ex,hl,df,inr,ht⟩:=(hI _ _ _).mp h
     obtain ⟨hr0,kr⟩:=Rn hx;refine Eq.symm hr0▸?_
     rw [Ak,Bm,Bf,wvr (v:=.int (k:Int)) rfl,wbf (v:=.loc H.length) rfl,Az hl,Od,Ai,List.length_map]
     by_cases c0:(k:Int) < (ks.length:Int)
     · rw [C6 c0]
       have hk:ks[k]?=some ks[k]:=List.getElem?_eq_getElem (by exact Aep c0)
       refine ex2 (Ha (inr _ (zF hk))) fun i' j' zz=>Ap zz fun e hi' hj'=>?_
       rw [e] at hk
       exact Z9 (d:=d) hS og hrc G ex (zI _) hl ht (by exact As6) hk hi' hj' df inr fun Γ K h=>(hI _ _ _).mpr ⟨_,h⟩
     · rw [Ca c0]
       refine (hI _ _ _).mpr ⟨_,.mk ks _ ex hl (df.imp fun p q hp _ _=>.inl ⟨?_,id⟩) inr ht⟩
       rw [List.take_of_length_le (by exact As7 c0)] at hp
       rw [List.take_of_length_le (by exact Ajf c0)]
       exact hp
 · intro Γ K h
   obtain ⟨x4,ks,x5,ex,hl,df,inr',ht⟩:=(hI _ _ _).mp h
   rw [M2] at df
   have kl:ks.length<=r * c:=Na df.nd fun q hq=>Fg.mpr (inr' q hq)
   refine W9 (Z6 hl) (W8 df.nd (df.fin fun p hp=>by rw [List.take_of_length_le kl];exact hp) inr' hrc) ?_
   exact ⟨K.length,rfl,ex.len,ex.new _,Au _ _⟩
end
section
variable{T:Tab}{Φ:Funs}{Γ:Env'}{H H0 K:Hp}{Q:Val->Hp->Prop}{E:Nat->Hp->Prop}{d:Nat}{QS:Env'->Hp->Prop}{R:Val->Hp->Prop}{ES:Nat->Env'->Hp->Prop}{l r c m o:Nat}{g:List (List Val)}{ks:List Key}{v:Val}{k:Key}{h:Int}
theorem Lk.drains(x:Lk H r c g ks l m o):Wp (Af T_06 (d+2) 27 [.loc o]) H (fun v H'=>∃ m',v=.loc m'/\H.length<=m'/\Ext H H'/\H'[m']?=some (.list (ks.map Ab))) NoE:=by
 refine Ae fun G kG=>?_
 refine ex4 x.L fun lg b' ls es zz=>Ac zz fun L q=>?_
 refine kG ?_
 have hS:=x.s
 unfold OkS at hS
 have:=Iw (d:=d) hS.2.1 hS.2.2.2 L
 rw [q] at this;exact this
theorem Lk.umeth{mth fn:Nat}{Q:Nat->Hp->Prop}(x:Lk H r c g ks l m o)(h:T_06.meth 7 mth=some fn):Wp (Cu T_06 (.loc o) mth) H Q E=Q fn H:=by
 refine Ae fun G kG=>?_
 refine ex4 x.L fun lg b' ls es zz=>Ac zz fun L q=>?_
 refine ex1 L.inst fun fs zz=>Ac zz fun f0 _=>?_
 refine kG ?_
 exact Fe f0 h
theorem Aab{a a':Nat}(ha:H[a]?=some (.list (ks.map Ab)))(hb:H[a']?=some (.list (ks.map Ab))):Wp (Af T_06 (d+2) 35 [.loc a,.loc a']) H (fun v H'=>v=.bool true/\Ext H H') NoE:=by
 rw [At (g:=Abd) rfl rfl]
 refine Gw (fun K=>K=H) ?_ ?_
 · show Wp (Ba T_06 (.loc a) .list) H _ _
   rw [V9 _ _ ha]
   show Wp (bfV .len [.loc a]) H _ _
   rw [Az ha]
   show Wp (bfV .len [.loc a']) H _ _
   rw [Az hb]
   exact ⟨congrArg Val.bool (show (!decide ((List.length (ks.map Ab):Int)=List.length (ks.map Ab)))=false by rw [decide_eq_true rfl];rfl),rfl⟩
 rintro H rfl
 refine Zo (fun k Γ K=>Ext (H++[.hid]) K/\∃ x y,Γ=[some (.loc a),some (.loc a'),x,y]) (l:=a) (m:=a') ⟨rfl,rfl⟩ ⟨rfl,rfl⟩ ha hb rfl ⟨Ext.refl _,_,_,rfl⟩ (fun k Γ K h=>h.1) ?_ (fun Γ K h=>⟨rfl,Ext.trans ⟨_,rfl⟩ h.1⟩)
 rintro k x y Γ K hx hy ⟨eK,_,_,hr1⟩;refine Eq.symm hr1▸?_
 rw [hx] at hy
 cases hy
 refine ex1 (Km hx) fun zn0 zz=>Ac zz fun hq hr2=>?_;obtain ⟨i,j⟩:=zn0;refine Eq.symm hr2▸?_
 show brB (!decide (i=i)) _ _
 rw [decide_eq_true rfl]
 show brB (!decide (j=j)) _ _
 rw [decide_eq_true rfl]
 exact ⟨eK,_,_,rfl⟩
theorem P8(no:∀ {Q:Val->Hp->Prop} {E:Nat->Hp->Prop},Wp (Af T_06 (d+5) 0 [v,.int 0,.int 1000000000]) H Q E=Q (.bool false) H):Wp (Af T_06 (d+7) 20 [.loc o,v]) H (fun w K=>w=.bool true/\H=K) NoE:=by
 rw [At (g:=Wf) rfl rfl]
 unfold Wf
 show wpSs T_06 (Af T_06 (d+6)) (.cons _ _) [some (.loc o),some v,none] H _ _ _
 refine Adm ?_
 refine (Nc (d:=d) no).mono (fun _ _ h=>h.elim) ?_
 rintro e K ⟨rfl,rfl⟩
 refine Ado (by decide +kernel) (by decide +kernel) ?_
 rw [Ak,Bt,Bd,Bf,Ax,wcv (v:=.exc 2) rfl,Aq]
 refine Wp.of_eq W5 ?_
 rw [Re,show D2 .eq (.str "height") (.str "height") H=some true by kernel_rfl]
 exact ⟨rfl,rfl⟩
theorem Lk.reached(x:Lk H r c g ks l m o)(h0:0<=h)(h1:h<=1000000000) :
 Wp (Af T_06 (d+6) 7 [.loc o,.int h]) H (fun v K=>∃ m,v=.loc m/\H.length<=m/\Ext H K/\K[m]?=some (.list ((I1 (hgt g r c) (fun k=>Ab k∈ks.map Ab) r c h).map Ab))) NoE:=by
 refine Ae fun G kG=>?_
 refine ex4 x.L fun lg b' ls es zz=>Ac zz fun L q=>?_
 refine kG ?_
 have hS:=x.s
 unfold OkS at hS
 have:=Ko (d:=d) x.og hS.2.1 hS.2.2.2 x.n L (fun k hk=>by rw [q] at hk;exact x.d k (Ou.mp hk)) h0 h1
 rw [q] at this;exact this
theorem Xd{x0 x4 x5 x8 x9 x10:Option Val}{ld f0 f1:Nat}(x:Lk H r c g ks l m o)(h0:0<=h)(h1:h<=1000000000)(gd:H[ld]?=some (.list [.loc f0,.loc f1]))(g0:H[f0]?=some (.list ((I1 (hgt g r c) (fun k=>Ab k∈ks.map Ab) r c 1000000000).map Ab)))(g1:H[f1]?=some (.list ((I1 (hgt g r c) (fun k=>Ab k∈ks.map Ab) r c h).map Ab)))
 (q:∀ K' a b,Ext H K'->QS [x0,some (.loc l),some (.loc m),some (.loc o),x4,x5,some (.int h),some (.loc ld),a,b,x10] K') :
 wpS T_06 (Af T_06 (d+8)) (.each 8 (.bf .range (.cons (.int 4) .nil)) zT3)
  [x0,some (.loc l),some (.loc m),some (.loc o),x4,x5,some (.int h),some (.loc ld),x8,x9,x10] H QS R NoX:=by
 obtain ⟨I,hI⟩:=Gc (fun (k:Nat) (Γ:Env') (K':Hp)=>Ext H K'/\∃ a b,Γ=[x0,some (.loc l),some (.loc m),some (.loc o),x4,x5,some (.int h),some (.loc ld),a,b,x10])
 refine E1 (n:=4) I ⟨rfl,rfl⟩ ⟨by decide,by decide⟩ ((hI _ _ _).mpr ⟨Ext.refl _,_,_,rfl⟩) ?_ ?_
 · intro k Γ K1 hk hh
   refine Ae fun G kG=>?_
   refine Ac ((hI _ _ _).mp hh) fun e1 zz=>ex2 zz fun a b zr3=>?_;subst zr3
   refine ex1 (Cc (k:Int) 2 (by decide)) fun j zz=>Ac zz fun hj lj=>?_
   have hj:Int.fmod (k:Int) 2=(j:Int):=hj
   have pick:∃ z f,[Val.int 1000000000,Val.int h][j]?=some (.int z)/\[Val.loc f0,Val.loc f1][j]?=some (.loc f)/\0<=z/\z<=1000000000/\H[f]?=some (.list ((I1 (hgt g r c) (fun k=>Ab k∈ks.map Ab) r c z).map Ab)):=by
    match j,lj with
    | 0,_=>exact ⟨_,_,rfl,rfl,by decide,by decide,g0⟩
    | 1,_=>exact ⟨_,_,rfl,rfl,h0,h1,g1⟩
   refine ex2 pick fun z f zz=>Ep zz fun p1 p2 z0 z1 gf=>?_
   refine kG ?_
   have e2:Ext H (K1++[HObj.list [.int 1000000000,.int h]]):=e1.new _
   rw [Ak,Ex,Ax,wcv (v:=.loc o) rfl,Ah,A7,En,Ah,A3,wcv (v:=.int h) rfl,Aq,Bv,wvr (v:=.int (k:Int)) rfl,A3,F8]
   refine ⟨by decide,?_⟩
   rw [hj]
   refine Iu (Au K1 _) (Int.natCast_nonneg _) (v:=.int z) (by rw [Int.toNat_natCast];exact p1) ?_
   rw [Aq]
   refine ((x.ext e2).reached (d:=d+2) z0 z1).then ?_
   intro v K2 zz
   refine ex1 zz fun fd zz=>Cl zz fun zr1 bf e3 hf=>?_;subst zr1
   show wpSs T_06 (Af T_06 (d+8)) (.cons _ _) [x0,some (.loc l),some (.loc m),some (.loc o),x4,x5,some (.int h),some (.loc ld),some (.int (k:Int)),some (.loc fd),x10] K2 _ _ _
   have e4:=e2.trans e3
   rw [Ak,Bm,Dk,Ax,wcv (v:=.loc fd) rfl,Ah,A7,wvr (v:=.loc ld) rfl,Bv,wvr (v:=.int (k:Int)) rfl,A3,F8]
   refine ⟨by decide,?_⟩
   rw [hj]
   refine Iu (e4.get gd) (Int.natCast_nonneg _) (v:=.loc f) (by rw [Int.toNat_natCast];exact p2) ?_
   rw [Aq]
   refine (Aab (d:=d+6) hf (e4.get gf)).then ?_
   rintro v K4 ⟨rfl,e5⟩
   have hf4:=e5.get hf
   refine Dd rfl hf4 ?_
   refine ⟨_,hf4,?_,(hI _ _ _).mpr ⟨(e4.trans e5).set (zC e2.len bf) _,_,_,rfl⟩⟩
   rw [List.length_map]
   have t1:(I1 (hgt g r c) (fun k=>Ab k∈ks.map Ab) r c z).length<=r * c:=Aeh
   have t2:=x.n
   show _ < 16777216
   exact As8 t2 t1
 · intro Γ K1 hh
   refine Ae fun G kG=>?_
   refine Ac ((hI _ _ _).mp hh) fun e1 zz=>ex2 zz fun a b zr3=>?_;subst zr3
   refine kG ?_
   exact q K1 a b e1
theorem Tj{a n:Int}(a0:0<=a)(a1:a<=1000000000)(h5:Γ[5]?=some (some (.int a)))(h4:Γ[4]?=some (some (.int n)))(q:∀ h K,0<=h->h<=1000000000->Ext H K->Q (.int h) K) :
 wpE T Φ (.sub (.list (.cons (.var 5) (.cons (.bf .min2 (.cons (.bin .add (.var 5) (.int 1)) (.cons (.int 1000000000) .nil))) (.cons (.bf .max2 (.cons (.bin .sub (.var 5) (.int 1)) (.cons (.int 0) .nil))) (.cons (.int 0) (.cons (.int 1000000000) .nil)))))) (.bin .mod (.var 4) (.int 5))) Γ H Q E:=by
 refine ex1 (Cc n 5 (by decide)) fun j zz=>Ac zz fun hj lj=>?_
 have hj:Int.fmod n 5=(j:Int):=hj
 have hv:∀ v∈[Val.int a,.int (if 1000000000 < a+1 then 1000000000 else a+1),.int (if 0 > a - 1 then 0 else a - 1),.int 0,.int 1000000000],∃ z,v=.int z/\0<=z/\z<=1000000000:=fc ⟨_,rfl,a0,a1⟩ (fc ⟨_,rfl,by omega,by omega⟩ (fc ⟨_,rfl,by omega,by omega⟩ (fc ⟨_,rfl,by decide,by decide⟩ (fc ⟨_,rfl,by decide,by decide⟩ fcn))))
 have lj':j < [Val.int a,.int (if 1000000000 < a+1 then 1000000000 else a+1),.int (if 0 > a - 1 then 0 else a - 1),.int 0,.int 1000000000].length:=lj
 refine ex1 (hv _ (List.getElem_mem lj')) fun z zz=>Ap zz fun hz z0 z1=>?_
 rw [A7,En,wcv h5,Ah,Eb,Ah,Bv,wvr h5,A3,Gv,Ah,A3,Aq,Mt,Ah,Eb,Ah,Bv,wvr h5,A3,Lp,Ah,A3,Aq,Mu,Ah,A3,Ah,A3,Aq,Bv,wvr h4,A3,F8]
 refine ⟨by decide,?_⟩
 rw [hj]
 exact Iu (Au H _) (Int.natCast_nonneg _) (v:=.int z) (by rw [Int.toNat_natCast,List.getElem?_eq_getElem lj',hz]) (q z _ z0 z1 ⟨_,rfl⟩)
theorem Aej{n:Int}(h4:Γ[4]?=some (some (.int n)))(q:∀ v K,Ext H K->(∀ {d:Nat} {H:Hp} {Q:Val->Hp->Prop} {E:Nat->Hp->Prop},Wp (Af T_06 (d+5) 0 [v,.int 0,.int 1000000000]) H Q E=Q (.bool false) H)->Q v K) :
 wpE T Φ (.sub (.list (.cons .none (.cons (.neg (.int 1)) (.cons (.int 1000000001) (.cons (.bool true) (.cons (.str "0") .nil)))))) (.bin .mod (.bin .fdiv (.var 4) (.int 5)) (.int 5))) Γ H Q E:=by
 refine ex1 (Cc (Int.fdiv n 5) 5 (by decide)) fun j zz=>Ac zz fun hj lj=>?_
 have hj:Int.fmod (Int.fdiv n 5) 5=(j:Int):=hj
 have hv:∀ v∈[Val.none,.int (-1),.int 1000000001,.bool true,.str "0"],∀ {d:Nat} {H:Hp} {Q:Val->Hp->Prop} {E:Nat->Hp->Prop},Wp (Af T_06 (d+5) 0 [v,.int 0,.int 1000000000]) H Q E=Q (.bool false) H:=fc rfl (fc rfl (fc rfl (fc rfl (fc rfl fcn))))
 have lj':j < [Val.none,.int (-1),.int 1000000001,.bool true,.str "0"].length:=lj
 rw [A7]
 show wpE T Φ (.bin .mod (.bin .fdiv (.var 4) (.int 5)) (.int 5)) Γ (H++[.list [Val.none,.int (-1),.int 1000000001,.bool true,.str "0"]]) _ _
 rw [Bv,Bv,wvr h4,A3,F7]
 refine ⟨by decide,?_⟩
 rw [A3,F8]
 refine ⟨by decide,?_⟩
 rw [hj]
 exact Iu (Au H _) (Int.natCast_nonneg _) (by rw [Int.toNat_natCast,List.getElem?_eq_getElem lj']) (q _ _ ⟨_,rfl⟩ (hv _ (List.getElem_mem lj')))
theorem Aek{x0 x4 x5 x6 x7 x8 x9 x10:Option Val}(x:Lk H r c g ks l m o) :
 wpE T_06 (Af T_06 (d+7)) (.and (.cmp .eq (.umeth (.var 3) 5 .nil) (.var 1)) (.cmp .eq (.umeth (.var 3) 4 .nil) (.var 2))) [x0,some (.loc l),some (.loc m),some (.loc o),x4,x5,x6,x7,x8,x9,x10] H (fun v _=>v=.bool true) E:=by
 refine Ae fun G kG=>?_
 refine ex4 x.L fun lg b' ls es zz=>Ac zz fun L hq=>?_
 refine kG ?_
 have hS:=x.s
 unfold OkS at hS
 rw [F6,Bf,Bx,wvr (v:=.loc o) rfl,x.umeth (show T_06.meth 7 5=some 28 from rfl)]
 refine (P2 (d:=d+6) x.og hS.2.1 L).then ?_
 rintro v K1 ⟨rfl,e1,G1⟩
 have x1:=x.ext e1
 rw [wvr (v:=.loc l) rfl,show D2 .eq (.loc (H.length+r)) (.loc l) K1=some true from Z3 G1 x1.G x.og.nv,C5,Ai]
 rw [Ct,Bf,Bx,wvr (v:=.loc o) rfl,x1.umeth (show T_06.meth 7 4=some 27 from rfl)]
 refine (x1.drains (d:=d+5)).then ?_
 intro v K2 zz
 refine ex1 zz fun m' zz=>Cl zz fun zr1 _ e2 g2=>?_;subst zr1
 have x2:=x1.ext e2
 rw [wvr (v:=.loc m) rfl,show D2 .eq (.loc m') (.loc m) K2=some true from Z4 g2 x2.m,C5]
theorem Ael(n:Nat):(if ((n:Int) - 1) > 0 then ((n:Int) - 1) else 0)=(((n - 1:Nat)):Int):=by
 by_cases h:((n:Int) - 1) > 0
 · rw [if_pos h];exact As9 h
 · rw [if_neg h];exact Ata h
theorem Aem{n:Int}(x:Lk H r c g ks l m o)(h1:Γ[1]?=some (some (.loc l)))(h4:Γ[4]?=some (some (.int n)))(q:∀ v,(v=.none\/∃ a,v=.int a/\0<=a/\a<=1000000000)->Q v H) :
 wpE T Φ (.sub (.sub (.var 1) (.bin .mod (.bin .fdiv (.var 4) (.int 5)) (.bf .len (.cons (.var 1) .nil)))) (.bin .mod (.bin .fdiv (.var 4) (.int 150)) (.bf .len (.cons (.sub (.var 1) (.int 0)) .nil)))) Γ H Q E:=by
 have hS:=x.s
 unfold OkS at hS
 have ll:=Jo x.og (b:=l+2) (s:=2) (l:=l)
 refine ex1 (Cc (Int.fdiv n 5) r (by exact Atb hS ll)) fun i zz=>Ac zz fun hi li=>?_
 refine ex1 (Cc (Int.fdiv n 150) c (by exact Aj2 hS)) fun j zz=>Ac zz fun hj lj=>?_
 refine ex2 (Ib x.og li lj) fun w y zz=>Ap zz fun hw hy _=>?_
 rw [A7,A7,wvr h1,Bv,Bv,wvr h4,A3,F7]
 refine ⟨by decide,?_⟩
 rw [wbf h1,Az x.G.top,ll,F8]
 refine ⟨by exact Atc hS ll,?_⟩
 rw [hi,Cz x.G.top (x.G.item (List.getElem?_eq_some_iff.mp hw).1),Bv,Bv,wvr h4,A3,F7]
 refine ⟨by decide,?_⟩
 rw [Eb,Ah,A7,wvr h1]
 show Wp (Dm (.loc l) (.int 0)) H (fun v H'=>Wp (bfV .len [v]) H' _ _) _
 rw [Rq x.s x.og x.G,F8]
 refine ⟨by exact Atd hS,?_⟩
 rw [hj,Cz (x.G.row i w hw) hy]
 refine q y ?_
 rcases (x.og.row i w hw).2 _ (zF hy) with e | ⟨a,e,a0,a1⟩
 · exact .inl e
 · exact .inr ⟨a,e,a0,a1⟩
end
section
variable{T:Tab}{Φ:Funs}{Γ:Env'}{H H0 K:Hp}{Q:Val->Hp->Prop}{E:Nat->Hp->Prop}{d:Nat}{QS:Env'->Hp->Prop}{R:Val->Hp->Prop}{ES:Nat->Env'->Hp->Prop}{l r c m o:Nat}{g:List (List Val)}{ks:List Key}{v:Val}{k:Key}{h:Int}
theorem Aen(ns:List Int):Wp (Af T_06 (d+9) 22 [.script ns]) H (fun v _=>v=.bool true) NoE:=by
 rw [At (g:=Aa8) rfl rfl]
 refine Ay _ (Zt (d:=d+5) ns) ?_
 intro _ H1 zz
 refine ex4 zz fun r c g l zz=>Ep zz fun zr4 hS hrc og G=>?_;subst zr4
 refine Ay _ (P6 (d:=d+6) ns hS og G) ?_
 intro _ H2 zz
 refine ex3 zz fun m n e zz=>Cl zz fun zr3 _ e2 hm=>?_;subst zr3
 have G:=G.ext e2
 have hks:∀ k∈(Fq r c).filter (Ic g r c n e),∃ a,hgt g r c k=some a:=fun k hk=>by
  have:=(List.mem_filter.mp hk).2
  unfold Ic at this
  cases ha:hgt g r c k with
  | none=>rw [ha] at this;cases this
  | some a=>exact ⟨a,rfl⟩
 have kl:((Fq r c).filter (Ic g r c n e)).length<=132:=by
  have:=List.length_filter_le (Ic g r c n e) (Fq r c)
  rw [Ff] at this;exact Ate hrc this
 refine Ay _ (Z8 (d:=d) hS og hrc G hm hks (by exact Aj1 kl)) ?_
 intro _ H3 zz
 refine ex5 zz fun o lg b' ls es zz=>Cl zz fun zr5 e3 L hin=>?_;subst zr5
 have x:Lk H3 r c g ((Fq r c).filter (Ic g r c n e)) l m o:=⟨hS,hrc,og,G.ext e3,e3.get hm,⟨lg,b',ls,es,L,Te hin⟩,hks⟩
 have nd:((Fq r c).filter (Ic g r c n e)).Nodup:=(Iz r c).sublist List.filter_sublist
 clear hin L hm G e2 e3
 generalize (Fq r c).filter (Ic g r c n e)=ks at *
 refine Ay (fun v K=>∃ z,v=.int z/\H3=K) ?_ ?_
 · rw [Ax,wcv (v:=.script ns) rfl,Ah,Eb,Ah,A3,Ah,Bv,wbf (v:=.script ns) rfl,By]
   show Wp (Af T_06 (d+8) 8 [.script ns,.int (if ((ns.length:Int) - 1) > 0 then ((ns.length:Int) - 1) else 0)]) H3 _ _
   rw [Ael,Gk]
   exact ⟨_,rfl,rfl⟩
 rintro _ K ⟨z,rfl,rfl⟩
 refine Ay (fun v K=>H3=K/\(v=.none\/∃ a,v=.int a/\0<=a/\a<=1000000000)) (Aem x rfl rfl fun v hv=>⟨rfl,hv⟩) ?_
 rintro own K ⟨rfl,ho⟩
 refine Dt (fun Γ K=>H3=K/\∃ a,0<=a/\a<=1000000000/\Γ=[some (.script ns),some (.loc l),some (.loc m),some (.loc o),some (.int z),some (.int a),none,none,none,none,none]) ?_ ?_
 · rw [Bm,Bf,wvr (v:=own) rfl,E9]
   rcases ho with rfl | ⟨a,rfl,a0,a1⟩
   · rw [Co,Ai,Ct]
     exact ⟨rfl,3,by decide,by decide,rfl⟩
   · rw [Ci,Ai,D8]
     exact ⟨rfl,a,a0,a1,rfl⟩
 intro Γ K zz
 refine Ac zz fun zr0 zz=>ex1 zz fun a zz=>Ap zz fun a0 a1 zr4=>?_;subst zr0;subst zr4
 refine Ay (fun v K=>∃ h,v=.int h/\0<=h/\h<=1000000000/\Ext H3 K) (Tj a0 a1 rfl rfl fun h K h0 h1 e=>⟨h,rfl,h0,h1,e⟩) ?_
 intro _ H4 zz
 refine ex1 zz fun h zz=>Cl zz fun zr1 h0 h1 e4=>?_;subst zr1
 have x4:=x.ext e4
 refine Ay (fun v K=>∃ ld f0 f1,v=.loc ld/\Ext H4 K/\K[ld]?=some (.list [.loc f0,.loc f1])/\K[f0]?=some (.list ((I1 (hgt g r c) (fun k=>Ab k∈ks.map Ab) r c 1000000000).map Ab))/\K[f1]?=some (.list ((I1 (hgt g r c) (fun k=>Ab k∈ks.map Ab) r c h).map Ab))) ?_ ?_
 · rw [En,Ah,Ax,wcv (v:=.loc l) rfl,wcv (v:=.loc m) rfl,Ah,A3,Aq]
   refine (Xc (d:=d+6) x.s x.og x.n x4.G x4.m x.d nd).then ?_
   intro _ K1 zz
   refine ex1 zz fun f0 zz=>Cl zz fun zr1 _ e5 g0=>?_;subst zr1
   have x5:=x4.ext e5
   rw [Ah,Ax,wcv (v:=.loc l) rfl,wcv (v:=.loc m) rfl,wcv (v:=.int h) rfl,Aq]
   refine (Xc (d:=d+6) x.s x.og x.n x5.G x5.m x.d nd).then ?_
   intro _ K2 zz
   refine ex1 zz fun f1 zz=>Cl zz fun zr1 _ e6 g1=>?_;subst zr1
   have e7:Ext K2 (K2++[HObj.list [.loc f0,.loc f1]]):=⟨_,rfl⟩
   exact ⟨K2.length,f0,f1,rfl,(e5.trans e6).trans e7,Au _ _,e7.get (e6.get g0),e7.get g1⟩
 intro _ H5 zz
 refine ex3 zz fun ld f0 f1 zz=>Ep zz fun zr3 e5 gd g0 g1=>?_;subst zr3
 refine Dt _ (Xd (d:=d) (x4.ext e5) h0 h1 gd g0 g1 (QS:=fun Γ K=>Ext H5 K/\∃ a b,Γ=[some (.script ns),some (.loc l),some (.loc m),some (.loc o),some (.int z),_,some (.int h),some (.loc ld),a,b,none]) fun K a b e=>⟨e,a,b,rfl⟩) ?_
 intro Γ H6 zz
 refine Ac zz fun e6 zz=>ex2 zz fun b1 b2 zr3=>?_;subst zr3
 have x6:=(x4.ext e5).ext e6
 refine Ay (fun v K=>Ext H6 K/\∀ {d:Nat} {H:Hp} {Q:Val->Hp->Prop} {E:Nat->Hp->Prop},Wp (Af T_06 (d+5) 0 [v,.int 0,.int 1000000000]) H Q E=Q (.bool false) H) (Aej (n:=z) rfl fun v K e no=>⟨e,no⟩) ?_
 rintro odd H7 ⟨e7,no⟩
 refine Gw (fun K=>H7=K) ?_ ?_
 · rw [Dk,Ax,wcv (v:=.loc o) rfl,wcv (v:=odd) rfl,Aq]
   refine (P8 (d:=d+1) no).then ?_
   rintro w K ⟨rfl,rfl⟩
   exact ⟨rfl,rfl⟩
 rintro K rfl
 exact Aek (d:=d+1) (x6.ext e7)
end
theorem law_06(ns:List Int)(hlen:ns.length<=63):∃ H',Af T_06 20 22 [.script ns] []=.ok (.bool true) H':=by
 refine Ae fun G kG=>?_
 refine ex2 ((Aen (d:=11) (H:=[]) ns).get) fun v H' zz=>Ac zz fun e zr3=>?_;subst zr3
 refine kG ?_
 exact ⟨H',e⟩
end Mine.Internal.Pure
namespace Mine.Internal
open PySem PySem.W PySem.Calls
noncomputable def headAll(t:Addr->Option Obj)(N:Names)(T:Tab)(cls:List Value)(attrs:List Str)(fns:List Addr)(nss:List (List Str)):Bool :=
 Tz t N T cls fns nss && Kx t N T attrs fns 0 cls && L5 N attrs && Qg t T cls && (t sysModules).isSome
noncomputable def fns_06:List Addr:=[28,35,40,47,139,146,280,285,292,299,313,320,327,332,339,351,356,346,186,368,375,361,382,158,165,172,193,205,210,231,238,245,252,259,266,306,200]
noncomputable def q_06:Program:=view PySem.Challenge.pw_uf020016_06 [PySem.Challenge.pw_uf020016_06.main.body.length - 1]
noncomputable def loose_06:List Str:=(PySem.Challenge.pw_uf020016_06.main.scope.names.map (·.1)).filter (· != "law")
set_option maxRecDepth 100000
set_option maxHeartbeats 0
theorem left_06:LeftO PySem.Challenge.pw_uf020016_06 q_06 loose_06 (fun s=>recOk [] s) (fun s=>headAll s.heap.get? N_06 T_06 [.ref 57,.ref 70,.ref 82,.ref 94,.ref 106,.ref 118,.ref 130,.ref 213,.ref 269,.type "ValueError"] ["rows","columns","grid","sinks","heap"] fns_06 V_06) (fun _=>true) 9000 true:=by
 refine Adh (M:=8000) (by kernel_rfl) (by kernel_rfl) (fun s=>by kernel_rfl) (by kernel_rfl) ?_
 intro w os
 rw [PySem.W.Fast.te4187177175401517315]
 kernel_rfl
theorem said_06:PySem.Challenge.rw_uf020016_06.wellSaid=true:=by
 rw [PySem.W.Fast.te9446332074065402090]
 kernel_rfl
noncomputable def I9:DefRec × List (Str × Expr):=(defOf q_06 "law").get (by kernel_rfl)
theorem hdef_06:defOf q_06 "law"=some (I9.1,I9.2):=by kernel_rfl
theorem hp_06:PySem.Challenge.pw_uf020016_06.theDef "law"=some (I9.1.params,I9.1.body,I9.1.scope):=by kernel_rfl
theorem hk_06:kwWritten? I9.1.params.kwonlyargs I9.1.params.kw_defaults=some I9.2:=by kernel_rfl
end Mine.Internal
open PySem PySem.W PySem.W.X PySem.W.ZRun PyProof.Rows
set_option maxRecDepth 100000 in
set_option maxHeartbeats 0 in
theorem PySem.Challenge.cw_uf020016_06_holds : PySem.Challenge.rw_uf020016_06.Holds := by
  refine holds_law Mine.Internal.said_06 fun Abz => ?_
  refine holds_openX (q := Mine.Internal.q_06) (loose := Mine.Internal.loose_06) (Xt := fun s => recOk [] s) (XP := fun _ _ => True) (N := 9000) Mine.Internal.left_06 (fun _ _ => trivial) (fun _ _ _ h _ => h) Mine.Internal.hdef_06 Mine.Internal.hp_06 Mine.Internal.hk_06 (fun s e => recFacts_of e) rfl Abz (by decide +kernel) ⟨rfl, rfl, rfl, rfl, rfl, by decide +kernel⟩ ?hw ?hc
  case hw => exact ⟨[.list []], by decide +kernel, by decide +kernel⟩
  intro w s₀ s₁ mg mb G y fa o pm cd doc dV kV ho hd hcd hD hmg hg args vals as L hpre hlay hrd hwl hlo
  refine Ground.open G ?_
  intro T B D TE TW
  wrow_args hpre hlay hrd hwl hlo
  have y' : Mine.Internal.headAll s₀.heap.get? Mine.Internal.N_06 Mine.Internal.T_06 [.ref 57, .ref 70, .ref 82, .ref 94, .ref 106, .ref 118, .ref 130, .ref 213, .ref 269, .type "ValueError"] ["rows", "columns", "grid", "sinks", "heap"] Mine.Internal.fns_06 Mine.Internal.V_06 = true := y
  unfold Mine.Internal.headAll at y'
  simp only [Bool.and_eq_true] at y'
  obtain ⟨⟨⟨⟨y1, y2⟩, y3⟩, yx⟩, y4⟩ := y'
  refine Mine.Internal.fin_all Mine.Internal.finish ⟨_, w, Mine.Internal.T_06, _, [.ref 57, .ref 70, .ref 82, .ref 94, .ref 106, .ref 118, .ref 130, .ref 213, .ref 269, .type "ValueError"], ["rows", "columns", "grid", "sinks", "heap"], Mine.Internal.fns_06⟩ Mine.Internal.N_06 s₀.heap.get? Mine.Internal.V_06 22 20 L.keeps T.g T.b T.builtins T.nolimit y1 y2 y3 yx y4 (script_obj L (by assumption)) (by assumption) (by omega) hmg rfl ⟨rfl, by decide, by decide⟩ (Mine.Internal.Pure.law_06 _ (by omega)) ?_
  intro s' hk ho' hg'
  exact ⟨.inl ⟨_, .bool true, [], rfl, raisesW_false (by wrow_none_raised), .bool true, by wrow_post, fun _ => ⟨List.nodup_nil, fun a ha => by cases ha⟩⟩, .of_keep hk, ho', .of_eq (hg'.trans hg)⟩
