import PyProof.Rows.All
import PyProof.StrBlock
import PyProof.StrBlockI
import PyProof.StrBlockL
import PyProof.P3Statements
import PyProof.RaisesMany
import PyProof.ExcArgsOwn
import KE.KIsNot
import PyProof.DictRoadsH
import PyProof.DictKinds
import PyProof.InstLoad
import PyProof.ObjNew
import PyProof.Cells
import PyProof.WalksMore
import PyProof.Calls
import PyProof.DefCall
import PyProof.ListMulRoad
import PyProof.Rows.ListMul
import PyProof.ExcClass2
import PyProof.ExcBaseAll.ValueError
import PyProof.TupleKey
import PyProof.IsiSeqPairs
import PyProof.IsiNone
import PyProof.TupleOfSeq
import PyProof.ListRange
import PyProof.WalkInts
import PyProof.CallRoads
import PyProof.RulesTry
import PyProof.StrWalks
import PyProof.MinMaxWalk
import KE.KSortTup
import KE.KDictSum
import PyProof.RulesDelMore
import PyProof.CompFree
import PyProof.CompUse
import PyProof.LetGo
import PyProof.AssignAttr
import PyProof.InstStoreFacts
import PyProof.WalksPairs
import PyProof.ZipIter
import PyProof.EnumFor
import PyProof.ListIndex
import PyProof.RulesAs
import Open.FastRun
import Lean
import Wide.All
import OpenK.AllK
import Wide.FinOn
import Lean
import PySem.Challenge.RW_uf020016_09
set_option Elab.async false
set_option autoImplicit false
set_option genSizeOfSpec false
set_option genSizeOf false
set_option backward.match.sparseCases false
set_option genInjectivity false
set_option tactic.hygienic false
set_option bootstrap.genMatcherCode false
set_option linter.all false
set_option linter.unusedSimpArgs false
namespace Mine.Internal
noncomputable def zA:=@Nat.lt_of_le_of_lt
noncomputable def zB:=@PySem.wpAny_bind
noncomputable def zC:=@Nat.le_trans
noncomputable def zD:=@Nat.lt_of_lt_of_le
noncomputable def zE:=@PySem.wpAny_mono
noncomputable def zF:=@List.mem_of_getElem?
noncomputable def zG:=@Nat.le_of_eq
noncomputable def zH:=@PySem.wpAny_pure
noncomputable def zI:=@Nat.le_refl
noncomputable def zJ:=@Nat.add_le_add_left
noncomputable def zK:=@Nat.le_of_lt_succ
noncomputable def zL:=@Nat.le_of_lt
noncomputable def zM:=@Nat.le_add_right
theorem ex1 {α1:Sort _} {p:α1 -> Prop} {G:Prop} (h:∃ x1:α1,p x1) (k:(x1:α1) -> p x1 -> G):G:=h.elim fun x1 h=>k x1 h
theorem ex2 {α1 α2:Sort _} {p:α1 -> α2 -> Prop} {G:Prop} (h:∃ x1:α1,∃ x2:α2,p x1 x2) (k:(x1:α1) -> (x2:α2) -> p x1 x2 -> G):G:=h.elim fun x1 h=>h.elim fun x2 h=>k x1 x2 h
theorem ex3 {α1 α2 α3:Sort _} {p:α1 -> α2 -> α3 -> Prop} {G:Prop} (h:∃ x1:α1,∃ x2:α2,∃ x3:α3,p x1 x2 x3) (k:(x1:α1) -> (x2:α2) -> (x3:α3) -> p x1 x2 x3 -> G):G:=h.elim fun x1 h=>h.elim fun x2 h=>h.elim fun x3 h=>k x1 x2 x3 h
theorem ex4 {α1 α2 α3 α4:Sort _} {p:α1 -> α2 -> α3 -> α4 -> Prop} {G:Prop} (h:∃ x1:α1,∃ x2:α2,∃ x3:α3,∃ x4:α4,p x1 x2 x3 x4) (k:(x1:α1) -> (x2:α2) -> (x3:α3) -> (x4:α4) -> p x1 x2 x3 x4 -> G):G:=h.elim fun x1 h=>h.elim fun x2 h=>h.elim fun x3 h=>h.elim fun x4 h=>k x1 x2 x3 x4 h
theorem ex5 {α1 α2 α3 α4 α5:Sort _} {p:α1 -> α2 -> α3 -> α4 -> α5 -> Prop} {G:Prop} (h:∃ x1:α1,∃ x2:α2,∃ x3:α3,∃ x4:α4,∃ x5:α5,p x1 x2 x3 x4 x5) (k:(x1:α1) -> (x2:α2) -> (x3:α3) -> (x4:α4) -> (x5:α5) -> p x1 x2 x3 x4 x5 -> G):G:=h.elim fun x1 h=>h.elim fun x2 h=>h.elim fun x3 h=>h.elim fun x4 h=>h.elim fun x5 h=>k x1 x2 x3 x4 x5 h
theorem ex6 {α1 α2 α3 α4 α5 α6:Sort _} {p:α1 -> α2 -> α3 -> α4 -> α5 -> α6 -> Prop} {G:Prop} (h:∃ x1:α1,∃ x2:α2,∃ x3:α3,∃ x4:α4,∃ x5:α5,∃ x6:α6,p x1 x2 x3 x4 x5 x6) (k:(x1:α1) -> (x2:α2) -> (x3:α3) -> (x4:α4) -> (x5:α5) -> (x6:α6) -> p x1 x2 x3 x4 x5 x6 -> G):G:=h.elim fun x1 h=>h.elim fun x2 h=>h.elim fun x3 h=>h.elim fun x4 h=>h.elim fun x5 h=>h.elim fun x6 h=>k x1 x2 x3 x4 x5 x6 h
theorem ex7 {α1 α2 α3 α4 α5 α6 α7:Sort _} {p:α1 -> α2 -> α3 -> α4 -> α5 -> α6 -> α7 -> Prop} {G:Prop} (h:∃ x1:α1,∃ x2:α2,∃ x3:α3,∃ x4:α4,∃ x5:α5,∃ x6:α6,∃ x7:α7,p x1 x2 x3 x4 x5 x6 x7) (k:(x1:α1) -> (x2:α2) -> (x3:α3) -> (x4:α4) -> (x5:α5) -> (x6:α6) -> (x7:α7) -> p x1 x2 x3 x4 x5 x6 x7 -> G):G:=h.elim fun x1 h=>h.elim fun x2 h=>h.elim fun x3 h=>h.elim fun x4 h=>h.elim fun x5 h=>h.elim fun x6 h=>h.elim fun x7 h=>k x1 x2 x3 x4 x5 x6 x7 h
theorem Vk {α1 α2 α3 α4 α5 α6 α7 α8 α9 α10 α11 α12 α13 α14:Sort _} {p:α1 -> α2 -> α3 -> α4 -> α5 -> α6 -> α7 -> α8 -> α9 -> α10 -> α11 -> α12 -> α13 -> α14 -> Prop} {G:Prop} (h:∃ x1:α1,∃ x2:α2,∃ x3:α3,∃ x4:α4,∃ x5:α5,∃ x6:α6,∃ x7:α7,∃ x8:α8,∃ x9:α9,∃ x10:α10,∃ x11:α11,∃ x12:α12,∃ x13:α13,∃ x14:α14,p x1 x2 x3 x4 x5 x6 x7 x8 x9 x10 x11 x12 x13 x14) (k:(x1:α1) -> (x2:α2) -> (x3:α3) -> (x4:α4) -> (x5:α5) -> (x6:α6) -> (x7:α7) -> (x8:α8) -> (x9:α9) -> (x10:α10) -> (x11:α11) -> (x12:α12) -> (x13:α13) -> (x14:α14) -> p x1 x2 x3 x4 x5 x6 x7 x8 x9 x10 x11 x12 x13 x14 -> G):G:=h.elim fun x1 h=>h.elim fun x2 h=>h.elim fun x3 h=>h.elim fun x4 h=>h.elim fun x5 h=>h.elim fun x6 h=>h.elim fun x7 h=>h.elim fun x8 h=>h.elim fun x9 h=>h.elim fun x10 h=>h.elim fun x11 h=>h.elim fun x12 h=>h.elim fun x13 h=>h.elim fun x14 h=>k x1 x2 x3 x4 x5 x6 x7 x8 x9 x10 x11 x12 x13 x14 h
theorem Ac {p1 p2 G:Prop} (h:p1 /\ p2) (k:p1 -> p2 -> G):G:=k (h.1) (h.2)
theorem An {p1 p2 p3 G:Prop} (h:p1 /\ p2 /\ p3) (k:p1 -> p2 -> p3 -> G):G:=k (h.1) (h.2.1) (h.2.2)
theorem Cm {p1 p2 p3 p4 G:Prop} (h:p1 /\ p2 /\ p3 /\ p4) (k:p1 -> p2 -> p3 -> p4 -> G):G:=k (h.1) (h.2.1) (h.2.2.1) (h.2.2.2)
theorem Fo {p1 p2 p3 p4 p5 G:Prop} (h:p1 /\ p2 /\ p3 /\ p4 /\ p5) (k:p1 -> p2 -> p3 -> p4 -> p5 -> G):G:=k (h.1) (h.2.1) (h.2.2.1) (h.2.2.2.1) (h.2.2.2.2)
theorem Lz {p1 p2 p3 p4 p5 p6 G:Prop} (h:p1 /\ p2 /\ p3 /\ p4 /\ p5 /\ p6) (k:p1 -> p2 -> p3 -> p4 -> p5 -> p6 -> G):G:=k (h.1) (h.2.1) (h.2.2.1) (h.2.2.2.1) (h.2.2.2.2.1) (h.2.2.2.2.2)
theorem Nj {p1 p2 p3 p4 p5 p6 p7 G:Prop} (h:p1 /\ p2 /\ p3 /\ p4 /\ p5 /\ p6 /\ p7) (k:p1 -> p2 -> p3 -> p4 -> p5 -> p6 -> p7 -> G):G:=k (h.1) (h.2.1) (h.2.2.1) (h.2.2.2.1) (h.2.2.2.2.1) (h.2.2.2.2.2.1) (h.2.2.2.2.2.2)
theorem Zi {p1 p2 p3 p4 p5 p6 p7 p8 p9 p10 G:Prop} (h:p1 /\ p2 /\ p3 /\ p4 /\ p5 /\ p6 /\ p7 /\ p8 /\ p9 /\ p10) (k:p1 -> p2 -> p3 -> p4 -> p5 -> p6 -> p7 -> p8 -> p9 -> p10 -> G):G:=k (h.1) (h.2.1) (h.2.2.1) (h.2.2.2.1) (h.2.2.2.2.1) (h.2.2.2.2.2.1) (h.2.2.2.2.2.2.1) (h.2.2.2.2.2.2.2.1) (h.2.2.2.2.2.2.2.2.1) (h.2.2.2.2.2.2.2.2.2)
theorem Vl {p1 p2 p3 p4 p5 p6 p7 p8 p9 p10 p11 G:Prop} (h:p1 /\ p2 /\ p3 /\ p4 /\ p5 /\ p6 /\ p7 /\ p8 /\ p9 /\ p10 /\ p11) (k:p1 -> p2 -> p3 -> p4 -> p5 -> p6 -> p7 -> p8 -> p9 -> p10 -> p11 -> G):G:=k (h.1) (h.2.1) (h.2.2.1) (h.2.2.2.1) (h.2.2.2.2.1) (h.2.2.2.2.2.1) (h.2.2.2.2.2.2.1) (h.2.2.2.2.2.2.2.1) (h.2.2.2.2.2.2.2.2.1) (h.2.2.2.2.2.2.2.2.2.1) (h.2.2.2.2.2.2.2.2.2.2)
theorem Ae8 {p1 p2 p3 p4 p5 p6 p7 p8 p9 p10 p11 p12 p13 p14 G:Prop} (h:p1 /\ p2 /\ p3 /\ p4 /\ p5 /\ p6 /\ p7 /\ p8 /\ p9 /\ p10 /\ p11 /\ p12 /\ p13 /\ p14) (k:p1 -> p2 -> p3 -> p4 -> p5 -> p6 -> p7 -> p8 -> p9 -> p10 -> p11 -> p12 -> p13 -> p14 -> G):G:=k (h.1) (h.2.1) (h.2.2.1) (h.2.2.2.1) (h.2.2.2.2.1) (h.2.2.2.2.2.1) (h.2.2.2.2.2.2.1) (h.2.2.2.2.2.2.2.1) (h.2.2.2.2.2.2.2.2.1) (h.2.2.2.2.2.2.2.2.2.1) (h.2.2.2.2.2.2.2.2.2.2.1) (h.2.2.2.2.2.2.2.2.2.2.2.1) (h.2.2.2.2.2.2.2.2.2.2.2.2.1) (h.2.2.2.2.2.2.2.2.2.2.2.2.2)
theorem os1 {a b c d:Nat} (h:a+d <= c) (k:b < 2 * d+2+a) (w:c+d < b):a+b=c+c+1:=have k:b < a+d+d+2:=zD k (zG ((Nat.add_comm (2 * d+2) a).trans (congrArg (·+2) ((congrArg (a+·) (Nat.two_mul d)).trans (Nat.add_assoc a d d).symm))));have e:c=a+d:=Nat.le_antisymm (Nat.le_of_add_le_add_right (b:=d+1) (zC w (zK k))) h;e▸(congrArg (a+·) (Nat.le_antisymm (zK k) (e▸w))).trans (congrArg (·+1) ((congrArg (a+·) (Nat.add_comm (a+d) d)).trans (Nat.add_assoc a d (a+d)).symm))
theorem os4 {s a b:Nat} (h:b < a):s <= s+a - 1 - b:=Nat.le_sub_of_add_le (Nat.le_sub_of_add_le (zJ h s))
theorem os5 {a b c d:Nat} (h:c <= b+d) (_:b < c) (w:2 * d+a <= c):a <= b:=Nat.le_of_add_le_add_right (zC (Nat.add_comm a d▸Nat.add_le_add_right (Nat.le_mul_of_pos_left d Nat.two_pos) a) (zC w h))
theorem os6 {a b c d:Nat} (h:c <= b+d) (k:b < c) (w:2 * d <= 0):a <= b:=absurd k (Nat.not_lt.mpr (zC h (zJ (zC (Nat.le_mul_of_pos_left d Nat.two_pos) w) b)))
theorem os7 {a b c d:Nat} (h:2 * c+d <= b) (k:a < d+c):a < b:=zD k (zC (Nat.add_comm d c▸Nat.add_le_add_right (Nat.le_mul_of_pos_left c Nat.two_pos) d) h)
theorem os8 {a b c d:Nat} (h:2 * c <= 0) (k:d <= a /\ a < d+c):a < b:=absurd k.2 (Nat.not_lt.mpr (zC (zJ (zC (Nat.le_mul_of_pos_left c Nat.two_pos) h) d) k.1))
theorem os9 {s a b:Nat} (h:s <= b) (h2:b < a):s+a - 1 - b < a:=zA (Nat.sub_le_of_le_add (Nat.sub_le_of_le_add (zC (Nat.add_le_add_right h a) (zG (by rw [Nat.add_right_comm,Nat.sub_add_cancel (Nat.zero_lt_of_lt h2),Nat.add_comm]))))) (Nat.sub_lt (Nat.zero_lt_of_lt h2) Nat.one_pos)
theorem Agr {a b c d:Nat} (h:a <= b+4) (k:c+1 <= d):a+5 * c < b+1+5 * d:=zD (Nat.add_lt_add_right (Nat.lt_succ_of_le h) _) (zC (zG ((Nat.add_assoc b 5 _).trans (congrArg (b+·) (Nat.add_comm 5 _)))) (Nat.add_le_add (Nat.le_succ b) (Nat.mul_le_mul_left 5 k)))
theorem Aih {a c:Nat}:a+1+20 * c+100 <= a+20 * (c+1)+100:=Nat.add_le_add_right (zC (zG (Nat.add_right_comm _ _ _)) (zJ (by decide:1 <= 20) (a+20 * c))) 100
theorem Aii {a b c d:Nat} (h:a <= b+4) (k:c+1 <= d):a+4 * c <= b+4 * d:=zC (Nat.add_le_add_right h _) (zC (zG ((Nat.add_assoc _ _ _).trans (congrArg (b+·) (Nat.add_comm _ _)))) (zJ (Nat.mul_le_mul_left 4 k) b))
theorem Ae9 {a b:Nat} (h:0 < a):0+a - 1 - b < a:=(Nat.zero_add a).symm▸zA (Nat.sub_le _ _) (Nat.sub_lt h Nat.one_pos)
theorem Ags {a b c d e:Nat} (h:d+1=e) (k:a+b=c+e) (w:b <= c):0 < a:=Nat.le_of_add_le_add_right (zC (Nat.add_comm 1 b▸Nat.add_le_add w (h▸Nat.le_add_left 1 d)) (zG k.symm))
theorem Afa {a b:Nat} (h:a <= b):a <= (a+b) / 2:=(Nat.le_div_iff_mul_le Nat.two_pos).mpr (Nat.mul_two a▸zJ h a)
theorem Afb {a b:Nat} (h:a < b):(a+b) / 2 < b:=(Nat.div_lt_iff_lt_mul Nat.two_pos).mpr (Nat.mul_two b▸Nat.add_lt_add_right h b)
theorem Aex {a b c k m n:Nat} (h:a+b+n < c) (w:k+m <= n):a+k+b+m < c:=zA (zC (zG ((congrArg (·+m) (Nat.add_right_comm a k b)).trans (Nat.add_assoc _ k m))) (zJ w (a+b))) h
theorem Aey {a m n c:Nat} (h:a+n < c) (w:m <= n):a+m < c:=zA (zJ w a) h
theorem Aez {a:Nat}:-(1073741824:Int) <= a:=Int.le_trans (by decide:-(1073741824:Int) <= 0) (Int.natCast_nonneg a)
theorem o1{a b:Nat}(h0:a<b+1)(h1:¬(a<b)):a=b:=Nat.le_antisymm (zK h0) (Nat.not_lt.mp h1)
theorem o2{a b c:Nat}(h0:a+5*b+150<c):a+5*b+147<c:=Aey h0 (by decide)
theorem o3{a b c:Nat}(h0:a+20*b+100<c):a+20*b+90<c:=zA (zJ (by decide) _) h0
theorem o4{a b c:Nat}(h0:a+5*(b+1)+150<c):a+5*b+150<c:=zA (Nat.add_le_add_right (zJ (Nat.mul_le_mul_left 5 (Nat.le_succ b)) a) 150) h0
theorem o5{a b c:Nat}(h0:a+20*(b+1)+100<c):a+1+20*b+100<c:=zA Aih h0
theorem o6{x0:Int}(h0:¬(x0=(0:Int)∨1073741824≤(Int.natAbs x0))):(Int.natAbs x0)<1073741824:=Nat.not_le.mp fun z=>h0 (.inr z)
theorem o7{a b:Nat}(h0:a+100<b):a+64<b:=Aey h0 (by decide)
theorem o8{a b:Nat}(h0:a+100<b):a+1+6<b:=Aey (m:=7) h0 (by decide)
theorem o9{a b:Nat}(h0:a+100<b):a+1<b:=zA (zJ (by decide) a) h0
theorem o10{a b:Nat}(h0:a+10<b):a+6<b:=Aey h0 (by decide)
theorem o11{a b c:Nat}(h0:a+20+(c+1)<b):a<b:=Nat.lt_trans (zD (Nat.lt_add_of_pos_right (by decide)) (zM _ _)) h0
theorem o12{a b c:Nat}(h0:a+20+(c+1)<b):a+1+10<b:=zA (zC (zJ (by decide:11 <= 20) a) (zM _ _)) h0
theorem o13{a b c:Nat}(h0:a+20+(b+1)<c):a+1+20+b<c:=zA (zG (Nat.add_right_comm (a+20) 1 b)) h0
theorem o14{a b:Nat}(h0:a+100<b):a+20+6<b:=zA (zJ (by decide:26 <= 100) a) h0
theorem o15{x0:Int}(h0:¬((0:Int)≤x0)):x0<(0:Int):=Int.not_le.mp h0
theorem o16{a:Nat}{x0:Int}(h0:(0:Int)≤x0)(h1:(Int.toNat x0)<a):x0<(a:Int):=(Int.toNat_lt h0).mp h1
theorem o17{a b c d:Nat}(h0:a<c)(h1:c=b)(h2:d=b):a<b:=zD h0 (zG h1)
theorem o18{x0 x1:Int}(h0:(-x1)≤x0)(h1:x0<x1)(h2:x0≤(100000:Int)):(Int.toNat x0)≤16777216:=zC (Int.toNat_le.mpr h2:_ <= 100000) (by decide)
theorem o19{a:Nat}(h0:a≤20):a<30:=zA h0 (by decide:20 < 30)
theorem o20{a b c:Nat}(h0:a=c)(h1:a≤b):a-1≤b:=zC (Nat.sub_le _ _) h1
theorem o21{a:Nat}:a≤a-1+1:=Nat.le_add_of_sub_le (zI _)
theorem o22{a:Nat}(h0:a≤1000):a≤16777216:=zL (zA h0 (by decide:1000 < 16777216))
theorem o23{a:Nat}(h0:a=6):1<a:=zD (by decide:1 < 6) (zG h0.symm)
theorem o24{a:Nat}(h0:a=11):3<a:=h0▸(by decide:3 < 11)
theorem o25{a b:Nat}(h0:a<b)(h1:a=b):False:=Nat.lt_irrefl _ (zD h0 (zG h1.symm))
theorem o26{a b c:Nat}(h0:a+5*(b+1)+147<c):a+1+5*b+150<c:=Aex (b:=5 * b) (n:=152) h0 (by decide)
theorem o27{a b c:Nat}(h0:a+20*(b+1)+90<c):a+3+20*b+100<c:=Aex (b:=20 * b) (n:=110) h0 (by decide)
theorem o28{a b c:Nat}(h0:a+c=b):a=(min a b):=(Nat.min_eq_left (h0▸zM _ _)).symm
theorem o29{a b c d:Nat}(h0:a+c=d)(h1:¬(b<a)):a≤b:=Nat.not_lt.mp h1
theorem o30{a b c:Nat}(h0:a+5*(c+1)+147<b):a<b:=zA (zC (zM _ _) (zM _ _)) h0
theorem o31{a:Nat}{x0:Int}(h0:a<(Int.toNat x0)):(0:Int)<(((Int.toNat x0):Nat):Int)-(a:Int):=Int.sub_pos_of_lt (Int.ofNat_lt.mpr h0)
theorem o32{a:Nat}:((a+1:Nat):Int)=(a:Int)+(1:Int):=rfl
theorem o33{a:Nat}{x0:Int}:(((Int.toNat x0):Nat):Int)-((a+1:Nat):Int)=(((Int.toNat x0):Nat):Int)-(a:Int)-(1:Int):=(Int.sub_sub (x0.toNat:Int) a 1).symm
theorem o34{a b c:Nat}(h0:c=a)(h1:c≤b):a≤b:=zC (zG h0.symm) h1
theorem o35{a:Nat}{x0:Int}(h0:x0≤(a:Int)):(((Int.toNat x0):Nat):Int)-(a:Int)≤(0:Int):=Int.sub_nonpos_of_le (Int.ofNat_le.mpr (Int.toNat_le.mpr h0))
theorem o36{a b:Nat}(h0:0<b)(h1:a=0):a<b:=zA (zG h1) h0
theorem o37{a:Nat}:2*(a/2)≤a:=Nat.mul_div_le a 2
theorem o38{a:Nat}:a<2*(a/2)+2:=Nat.lt_mul_div_succ a Nat.two_pos
theorem o39{a b c d:Nat}(h1:a+d≤c)(h2:b-a<2*d+2)(h3:c<b-d):a+b-1-c=c:=Nat.sub_eq_of_eq_add (Nat.sub_eq_of_eq_add (os1 h1 (Nat.not_le.mp fun w=>Nat.not_le.mpr h2 (Nat.le_sub_of_add_le w)) (Nat.add_lt_of_lt_sub h3)))
theorem o40{a b c d:Nat}(h1:2*c≤b-d)(h2:d≤a∧a<d+c):a<b:=(Nat.le_total d b).elim (fun h=>os7 (Nat.add_le_of_le_sub h h1) h2.2) fun h=>os8 (Nat.sub_eq_zero_of_le h▸h1) h2
theorem o41{a b c d:Nat}(h1:c-d≤b∧b<c)(h2:2*d≤c-a):a≤b:=(Nat.le_total a c).elim (fun h=>os5 (Nat.le_add_of_sub_le h1.1) h1.2 (Nat.add_le_of_le_sub h h2)) fun h=>os6 (Nat.le_add_of_sub_le h1.1) h1.2 (Nat.sub_eq_zero_of_le h▸h2)
theorem o42{a b:Nat}:a≤a+(b+1):=zM _ _
theorem o43{a b:Nat}(h1:1≤b)(h2:a<b)(h3:¬(a=b-1)):a<b-1:=Nat.lt_of_le_of_ne (Nat.le_sub_one_of_lt h2) h3
theorem o44{a:Nat}(h0:1≤a):a-1<a:=Nat.sub_lt (zD (by decide:0 < 1) h0) Nat.one_pos
theorem o45{a b:Nat}(h0:a<b+1)(h1:¬(a=b)):a<b:=Nat.lt_of_le_of_ne (zK h0) h1
theorem o46{a:Nat}(h0:1≤a):1≤a+1:=Nat.le_add_left _ _
theorem o47{a b c d:Nat}(h1:a-(b+1)≤d∧d<a)(h2:d<c)(h3:c<a):a-(b+1)≤c∧c<a:=⟨zC h1.1 (zL h2),h3⟩
theorem o48{a b c d:Nat}(h1:a-(b+1)≤c∧c<a)(h2:b+1≤a)(h3:c<d)(h4:d<a):a≤a-(b+1)+a-1-c+b+1:=zC (zG (Nat.sub_add_cancel h2).symm) (Nat.add_le_add_right (os4 h1.2) (b+1))
theorem o49{a b c d:Nat}(h1:a-(b+1)≤c∧c<a)(h2:c<d)(h3:d<a):a-(b+1)+a-1-c<a:=os9 h1.1 h1.2
theorem o50{a b c:Nat}(h1:b+1≤a)(h2:c<a):a≤a-(b+1)+a-1-c+b+1:=zC (zG (Nat.sub_add_cancel h1).symm) (Nat.add_le_add_right (os4 h2) (b+1))
theorem o51{a b c d:Nat}(h1:a-(b+1)≤d∧d<a)(h2:d<c)(h3:c<a):a-(b+1)+a-1-c<a:=os9 (zC h1.1 (zL h2)) h3
theorem o52{a b c d:Nat}(h1:c+1≤b)(h2:a<d)(h3:d<b)(h4:¬(b-(c+1)≤a∧a<b)):a<b-(c+1)+b-1-d:=zD (Nat.not_le.mp fun w=>h4 ⟨w,Nat.lt_trans h2 h3⟩) (os4 h3)
theorem o53{a b c:Nat}(h0:a-(b+1)≤c∧c<a)(h1:c<a):a-(b+1)+a-1-c<a:=os9 h0.1 h1
theorem o54{a b:Nat}(h1:a<b)(h2:¬(a=b-1)):a<b-1:=Nat.lt_of_le_of_ne (Nat.le_sub_one_of_lt h1) h2
theorem o55{a b:Nat}(h1:b<a):a-1<a:=Nat.sub_lt (Nat.zero_lt_of_lt h1) Nat.one_pos
theorem o56{a b c:Nat}(h0:c+1≤a+0+1)(h1:c+1≤b+0+1)(h2:a<c+1)(h3:b<c+1):a=b:=(Nat.le_antisymm (zK h2) (Nat.le_of_succ_le_succ h0)).trans (Nat.le_antisymm (Nat.le_of_succ_le_succ h1) (zK h3))
theorem o57{a b c d:Nat}(h0:a+(c+1)≤d)(h1:b=d):a≤b:=zC (zC (zM _ _) h0) (zG h1.symm)
theorem o58{a b:Nat}:¬(a-(b+1)≤a∧a<a):=fun z=>Nat.lt_irrefl _ z.2
theorem o59{a b c d:Nat}(h0:a+(b+1)≤c)(h1:d=c):a+1+b≤c:=zC (zG (Nat.add_right_comm a 1 b)) h0
theorem o60{a:Nat}:0+1≤a+1:=zC (by decide:(0+1) <= 1) (Nat.le_add_left _ _)
theorem o61{a b:Nat}(h0:a+1≤b):a+1+1≤b+1:=zA h0 (Nat.lt_succ_self _)
theorem o62{a:Nat}:a+1≤a+0+1:=zI _
theorem o63{a:Nat}:a<a+1:=Nat.lt_succ_self _
theorem o64{a b c d:Nat}(h0:a+1≤c+(b+1)+1)(h1:a+1≤d+(b+1)+1)(h2:b+1≤a)(h3:d<a+1)(h4:c=a):a≤a-1+b+1:=zC (zG (Nat.sub_add_cancel (Nat.zero_lt_of_lt h2)).symm) (Nat.succ_le_succ (zM _ _))
theorem o65{a b c:Nat}(h0:a+1≤b+(c+1)+1)(h1:c+1≤a)(h2:b=a):a-1<a:=Nat.sub_lt (zA (Nat.zero_le _) h1) Nat.one_pos
theorem o66{a b c d:Nat}(h0:a+1≤b+(c+1)+1)(h1:d=a):a≤b+c+1:=Nat.le_of_succ_le_succ h0
theorem o67{a b c:Nat}(h0:a<b+1)(h1:c=b)(h2:¬(a=b)):a<b:=Nat.lt_of_le_of_ne (zK h0) h2
theorem o68{a b c:Nat}(_:a+1≤b+(c+1)+1):a≤b+c+1:=by grind
theorem o69{a b c:Nat}(h0:a<b+1)(h1:c<b+1)(h2:¬(a=b))(h3:¬(c=b)):a<b:=Nat.lt_of_le_of_ne (zK h0) h2
theorem o70{a b:Nat}(h0:a<b):0≤a∧a<b:=⟨Nat.zero_le _,h0⟩
theorem o71{a b c:Nat}(h0:a<c)(h1:c<b):0≤a∧a<b:=⟨Nat.zero_le _,Nat.lt_trans h0 h1⟩
theorem o72{a b c:Nat}(h1:c<b)(h2:b<a):0+a-1-b<0+a-1-c:=(Nat.zero_add a).symm▸Nat.sub_lt_sub_left (Nat.lt_sub_of_add_lt (zA h1 h2)) h1
theorem o73{a b c:Nat}(h0:b<c)(h1:c<a):0+a-1-b<a:=Ae9 (Nat.zero_lt_of_lt h1)
theorem o74{a b:Nat}(h0:1≤b)(h1:b≤a):0<a:=zD (zD (by decide:0 < 1) h0) h1
theorem o75{a b:Nat}(h0:b+1≤a)(h1:1≤b):0<a:=zA (Nat.zero_le _) h0
theorem o76{a b:Nat}(h1:a+1≤b):a+1+(b-(a+1))≤b:=zG (Nat.add_sub_cancel' h1)
theorem o77{a:Nat}(h0:1≤a):0+1≤a+1:=zC (by decide:(0+1) <= 1) (Nat.le_add_left _ _)
theorem o78 {a0 a1:Nat} (h0:(a1+1) <= a0) (h1:a1 > 0):1 <= a0:=zC (Nat.le_add_left _ _) h0
theorem o79{a b c:Nat}(h1:c+1≤b)(h2:a≤c+1+(b-(c+1))):a≤b:=Nat.add_sub_cancel' h1▸h2
theorem o80 {a0 a1:Nat} (h0:(a1+1) <= a0) (h1:¬ (a1 > 0)):1 <= a0:=zC (Nat.le_add_left _ _) h0
theorem o81{a b:Nat}(h0:a<1)(h1:b<a):False:=Nat.not_lt_zero _ (zD h1 (zK h0))
theorem o82 {a0 a1:Nat} (h0:a0 < a1) (h1:a1 > 1) (h2:¬ (a0=(a1 - 1))):a0 < (a1 - 1):=Nat.lt_of_le_of_ne (Nat.le_sub_one_of_lt h0) h2
theorem o83 {a0:Nat} (h0:a0 > 1):(a0 - 1) < a0:=Nat.sub_lt (Nat.lt_trans (by decide:0 < 1) h0) Nat.one_pos
theorem o84{a:Nat}(h0:¬(a=0)):0<a:=Nat.lt_of_le_of_ne (Nat.zero_le _) (fun e=>h0 e.symm)
theorem o85{a b:Nat}(h0:a=b):¬(0≤a∧a<b):=fun z=>Nat.lt_irrefl _ (zD z.2 (zG h0.symm))
theorem o86{a b c:Nat}(h0:a<c)(h1:c=b):0≤a∧a<b:=⟨Nat.zero_le _,zD h0 (zG h1)⟩
theorem o87{a b c:Nat}(h0:b<c)(h1:c=a):0+a-1-b<a:=Ae9 (h1▸Nat.zero_lt_of_lt h0)
theorem o88{a b:Nat}(h0:a<b+1)(h1:¬(a=b)):0≤a∧a<b:=⟨Nat.zero_le _,Nat.lt_of_le_of_ne (zK h0) h1⟩
theorem o89{a b c:Nat}(h0:c<b+1)(h1:a<c):0≤a∧a<b:=⟨Nat.zero_le _,zD h1 (zK h0)⟩
theorem o90{a b c:Nat}(h1:c<a+1)(h2:b<c):0+a-1-b<a:=(Nat.zero_add a).symm▸zA (Nat.sub_le _ _) (Nat.sub_lt (Nat.zero_lt_of_lt (zD h2 (zK h1))) Nat.one_pos)
theorem o91{a b c:Nat}(h0:b<a+1)(h1:c<b):0+a-1-b<a:=Ae9 (zD (Nat.zero_lt_of_lt h1) (zK h0))
theorem o92 {a0:Nat} (h0:1 <= a0) (h1:¬ (a0 > 1)):a0=1:=Nat.le_antisymm (Nat.not_lt.mp h1) h0
theorem o93{a:Nat}(h0:1<a):1+1≤a:=h0
theorem o94{a b:Nat}(h0:b<1+1)(h1:a<b):a=0∧b=1:=⟨Nat.lt_one_iff.mp (zD h1 (zK h0)),Nat.le_antisymm (zK h0) (Nat.zero_lt_of_lt h1)⟩
theorem o95{a b c:Nat}(h0:c≤a+0)(h1:a≤c)(h2:c≤b):a≤b:=zC h1 h2
theorem o96{a b c:Nat}(h0:a≤c+0)(h1:c≤a)(h2:c≤b):a≤b:=zC (zC h0 (zI _)) h2
theorem o97 {a0 a1 a2:Nat} (h0:a0 <= a2) (h1:a2 <= a1) (h2:a0 ≥ a2):a0 <= a1:=zC h0 h1
theorem o98 {a0 a1 a2:Nat} (h0:a2 <= a0) (h1:a2 <= a1) (h2:a2 ≥ a0):a0 <= a1:=zC h2 h1
theorem o99 {a0 a1:Nat} (h0:¬ (a0 ≥ a1)):a0 <= ((a0+a1) / 2):=Afa (Nat.le_of_not_le h0)
theorem Aij {a0 a1 a2:Nat} (h0:a1 <= a2) (h1:¬ (a0 ≥ a1)):((a0+a1) / 2) <= a2:=zC (zL (Afb (Nat.not_le.mp h1))) h0
theorem Aik{a b c:Nat}(h0:b≤a+(c+1)):(a+b)/2≤a+c:=zK ((Nat.div_lt_iff_lt_mul Nat.two_pos).mpr (Nat.mul_two (a+c+1)▸Nat.add_lt_add_of_lt_of_le (Nat.lt_succ_of_le (zM a c)) h0))
theorem Ail{a b c:Nat}(h0:(a+b)/2≤c)(h1:¬(c=(a+b)/2)):(a+b)/2<c:=Nat.lt_of_le_of_ne h0 (fun e=>h1 e.symm)
theorem Aim {a0 a1:Nat} (h0:¬ (a0 ≥ a1)):(((a0+a1) / 2)+1) <= a1:=Afb (Nat.not_le.mp h0)
theorem Ain{a b c:Nat}(h0:a≤b+(c+1)):a≤(b+a)/2+1+c:=(Nat.le_total b a).elim (fun h=>zC h0 (zC (Nat.add_le_add_right (Afa h) (c+1)) (zG (Nat.add_right_comm _ c 1)))) fun h=>zC (Nat.add_comm a b▸Afa h) (zC (Nat.le_succ _) (zM _ _))
theorem Aio{a b c:Nat}(h0:a<(b+c)/2+1)(h1:¬(a=(b+c)/2)):a<(b+c)/2:=Nat.lt_of_le_of_ne (zK h0) h1
theorem Aip {a0 a1 a2:Nat} (h0:a1 <= a2) (h1:¬ (a0 ≥ a1)):((a0+a1) / 2) < a2:=zD (Afb (Nat.not_le.mp h1)) h0
theorem Aiq{a:Nat}:a≤0+a:=Nat.le_add_left _ _
theorem Agt{a:Nat}(h0:a<0):False:=Nat.lt_irrefl _ (zD h0 (Nat.zero_le _))
theorem Air{a b:Nat}(h0:a<b)(h1:b≤a):False:=Nat.lt_irrefl _ (zD h0 h1)
theorem Ais{a b c:Nat}(h0:a+(b+1)=c):a+1+b=c:=(Nat.add_right_comm a 1 b).trans h0
theorem Ait{a b c:Nat}(h0:a+(c+1)=b):a<b:=h0▸Nat.lt_add_of_pos_right (Nat.succ_pos c)
theorem Agu{a b:Nat}(h0:b≤a):a-b≤a:=Nat.sub_le _ _
theorem Aiu{a b:Nat}(h1:b≤a):a-(a-b)=b:=Nat.sub_sub_self h1
theorem Afc{a b c:Nat}(h0:c<a)(h1:c=b):¬(a=b):=Nat.ne_of_gt (zA (zG h1.symm) h0)
theorem Aiv{a b c d:Nat}(h0:b<c+1)(h1:d<b)(h2:d=a):a<b∧b≤c:=⟨zA (zG h2.symm) h1,zK h0⟩
theorem Aiw{a b c:Nat}(h1:c<b)(h2:c=a):a≤b-1:=h2▸Nat.le_sub_one_of_lt h1
theorem Afd{a b c:Nat}(h1:a<b+1)(h2:c<a):a-1<b:=zD (Nat.sub_lt (Nat.zero_lt_of_lt h2) Nat.one_pos) (zK h1)
theorem Aix{a b c d:Nat}(h0:b<d)(h1:d=a):¬(a<b∧b≤c):=fun z=>Nat.lt_irrefl _ (zD (Nat.lt_trans z.1 h0) (zG h1))
theorem Agv{a b c:Nat}(h0:a<c)(h1:c=b):a<b:=zD h0 (zG h1)
theorem Aiy{a b c d:Nat}(h0:a<d∧d≤c)(h1:b<c+1)(h2:d<b):a<b∧b≤c:=⟨Nat.lt_trans h0.1 h2,zK h1⟩
theorem Aiz{a b c d:Nat}(h1:c<a∧a≤d)(h2:a<b):a-1<b-1:=Nat.sub_lt_sub_right (zA (Nat.zero_le _) h1.1) h2
theorem Ai0{a b c d:Nat}(h1:c<b∧b≤d)(h2:b<d+1)(h3:a<b)(h4:¬(c<a∧a≤d))(h5:¬(a=c))(h6:¬(b=c)):a<b-1:=Nat.lt_sub_of_add_lt (zA (Nat.lt_of_le_of_ne (Nat.not_lt.mp fun w=>h4 ⟨w,zC (zL h3) h1.2⟩) h5) h1.1)
theorem Ai1{a b c d:Nat}(h0:a<b+1)(h1:c<a)(h2:d≤b)(h3:¬(d<c∧c≤b))(h4:¬(d<a∧a≤b))(h5:¬(a=d)):a<b:=zD (Nat.lt_of_le_of_ne (Nat.not_lt.mp fun w=>h4 ⟨w,zK h0⟩) h5) h2
theorem Ai2{a:Nat}(h0:1≤a):(max a 1)=a:=Nat.max_eq_left h0
theorem Ai3{a b:Nat}(h0:(max a 1)=a)(h1:a<b):a+(b-a)=b:=Nat.add_sub_cancel' (zL h1)
theorem Ai4{a b:Nat}(h0:a≤b)(h1:¬(a<b)):a=b:=Nat.le_antisymm h0 (Nat.not_lt.mp h1)
theorem Agw{a:Nat}:¬((a:Int)<(0:Int)):=fun z=>Int.lt_irrefl _ (Int.lt_of_le_of_lt (Int.natCast_nonneg _) z)
theorem Ai5{a b c d:Nat}(h0:c=a)(h1:d=c)(h2:d≤b):a≤b:=zC (zC (zG h0.symm) (zG h1.symm)) h2
theorem Zj{a b:Nat}(h0:¬(b<a)):a≤b:=Nat.not_lt.mp h0
theorem Ai6{a b c d:Nat}(h0:a=c)(h1:d=c)(h2:¬(b<d)):a≤b:=zC (zC (zG h0) (zG h1.symm)) (Nat.not_lt.mp h2)
theorem Ai7{a b c:Nat}(h0:a<64)(h1:b=a)(h2:c=a):a≤16777216+1:=zL (Nat.lt_trans h0 (by decide:64 < (16777216+1)))
theorem Afe{a:Nat}(h0:a<64):a≤16777216:=zL (Nat.lt_trans h0 (by decide:64 < 16777216))
theorem Ai8{a:Nat}(h0:a<64)(h1:¬(a<2)):2≤a:=Nat.not_lt.mp h1
theorem Agx{a b c:Nat}(h0:a+20+c<b):a+10<b:=zA (zC (zJ (by decide:10 <= 20) a) (zM _ _)) h0
theorem Ai9{a b:Nat}(h0:b<64)(h1:b=a):a<64:=zA (zG h1.symm) h0
theorem Aja{a b:Nat}(h0:b<64)(h1:b=a):a≤16777216:=zL (Nat.lt_trans (zA (zG h1.symm) h0) (by decide:64 < 16777216))
theorem Ajb{a b c d:Nat}(h0:a<2)(h1:b<64)(h2:c<d)(h3:d<b)(h4:b=a):False:=Nat.not_lt_zero c (zD h2 (zK (zD h3 (zK (h4▸h0)))))
theorem Ajc{a b:Nat}(h0:2≤b)(h1:a<64)(h2:a=b):0<a:=zD (zD (by decide:0 < 2) h0) (zG h2.symm)
theorem Ajd{a b:Nat}(h0:a+100<b):a+1+1+30<b:=zA (zJ (by decide:32 <= 100) a) h0
theorem Aje{a b c:Nat}(h0:2≤b)(h1:c<64)(h2:c=b)(h3:a=b):0<a:=zD (zD (by decide:0 < 2) h0) (zG h3.symm)
theorem Ajf{a b c:Nat}(h0:2≤b)(h1:a<64)(h2:a=b)(h3:c=b):0<a:=zD (zD (by decide:0 < 2) h0) (zG h2.symm)
theorem Ajg{a b:Nat}(h0:a+30<b):a+20+5<b:=zA (zJ (by decide:25 <= 30) a) h0
theorem Ajh{a b:Nat}(h0:a<64)(h1:a=b):a≤16777216:=zL (Nat.lt_trans h0 (by decide:64 < 16777216))
theorem Aff{a b c:Nat}(h0:b<a)(h1:c=a+1-b):a+1-(b+1)<c:=h1▸Nat.sub_lt_sub_left (Nat.lt_succ_of_lt h0) (Nat.lt_succ_self _)
theorem Aji{a b c d:Nat}(_:c<b)(_:a<c)(_:c=a+d):a<b:=by lia
theorem Agy{a b:Nat}(h0:a-b=0)(h1:¬(a<b)):a=b:=Nat.le_antisymm (Nat.le_of_sub_eq_zero h0) (Nat.not_lt.mp h1)
theorem Ajj{a b c:Nat}(h0:a=c)(h1:b=c):a=b:=Nat.le_antisymm (zC (zG h0) (zG h1.symm)) (zC (zG h1) (zG h0.symm))
theorem Ajk{a b c:Nat}(h0:a+5*b+150<c):a+1+5*b+147<c:=Aex h0 (by decide)
theorem Ajl{a b c:Nat}(h0:a+20*b+100<c):a+1+20*b+90<c:=Aex h0 (by decide)
theorem Ajm{a b c:Nat}(h0:a+20*c+100<b):a+100<b:=zA (Nat.add_le_add_right (zM _ _) _) h0
theorem Ajn{a b c d:Nat}(h0:c=d)(h1:c=a)(h2:c≤b):a≤b:=zC (zG h1.symm) h2
theorem Ajo{a:Nat}:a<a+4:=Nat.lt_add_of_pos_right (by decide)
theorem Ajp{a:Nat}:a+1<a+4:=Nat.add_lt_add_of_le_of_lt (zI _) (by decide:1 < 4)
theorem X9{a b:Nat}(h0:(a:Int)<(b:Int)):a<b:=Int.ofNat_lt.mp h0
theorem Ajq{a b c:Nat}(h0:a+20*(c+1)+90<b):a+3+100<b:=zA (zC (zJ (by decide:103 <= 110) a) (Nat.add_le_add_right (zM a (20 * c)) 110)) h0
theorem Afg{a b:Nat}:a+(b+1)=a+1+b:=(Nat.add_right_comm a 1 b).symm
theorem Ajr{a:Nat}(h0:a≤63):a≤16777216:=zL (zA h0 (by decide:63 < 16777216))
theorem Ajs{a b:Nat}(h0:a≤b):a+(b-a)=b:=Nat.add_sub_of_le h0
theorem Ni{a:Nat}:(0:Int)≤(a:Int):=Int.natCast_nonneg _
theorem Vg{a b:Nat}(h0:a<b):(a:Int)<(b:Int):=Int.ofNat_lt.mpr h0
theorem Agz{a b:Nat}(h0:0=b-a)(h1:a≤b):a=b:=Nat.le_antisymm h1 (Nat.le_of_sub_eq_zero h0.symm)
theorem Ajt{a:Nat}(h0:0<a):(a-1)/2<a:=zA (Nat.div_le_self _ _) (Nat.sub_lt h0 Nat.one_pos)
theorem Aju{a:Nat}(h0:0<a)(h1:a=0):False:=Nat.lt_irrefl _ (zA (zG h1) h0)
theorem Ajv {a0 a1:Nat} (_:a0 < (a1+1)) (_:a0≠a1):a0 < a1:=by lia
theorem Ag0{a b c:Nat}(h0:c<b+1)(h1:a<c):a<b:=zD h1 (zK h0)
theorem Ajw{a b c:Nat}(h0:a<b+1)(h1:c<a)(h2:c=b):False:=Nat.lt_irrefl _ (zA (zC (zK h0) (zG h2.symm)) h1)
theorem Ag1{a b:Nat}(h0:a<b):¬(a=b):=Nat.ne_of_lt h0
theorem Ajx{a b c d:Nat}(h0:c<b)(h1:a<c)(h2:d=c):¬(a=b):=Nat.ne_of_lt (Nat.lt_trans h1 h0)
theorem Ajy{a b c:Nat}(h0:a<b)(h1:c=b):¬(a=b):=Nat.ne_of_lt h0
theorem Ajz {a0 a1 a2:Nat} (h0:a0 < a1) (h1:a2=a0):a0≠a1:=Nat.ne_of_lt h0
theorem Aj0{a b c:Nat}(h0:a<c)(h1:c<b):a<b:=Nat.lt_trans h0 h1
theorem Aj1 {a0:Nat} (h0:0 < a0):0≠a0:=Nat.ne_of_lt h0
theorem Aj2{a b c d:Nat}(h0:c<b)(h1:c=a)(h2:d=b):¬(a=b):=Nat.ne_of_lt (zA (zG h1.symm) h0)
theorem Aj3{a b c d a4:Nat}(h0:c<d)(h1:a4<a)(h2:c=b)(h3:a4=d):¬(a=b):=fun e=>Nat.lt_asymm h1 (e▸h3▸h2▸h0)
theorem Aj4 {a0 a1 a2 a3:Nat} (h0:a2 < a3) (h1:a2=a1) (h2:a0=a3):a0≠a1:=Nat.ne_of_gt (zD (zA (zG h1.symm) h0) (zG h2.symm))
theorem Aj5{x0 x1:Int}(h0:x1<x0):¬(x0<x1):=fun z=>Int.lt_irrefl _ (Int.lt_trans h0 z)
theorem Ag2{x0 x1 x2:Int}(h0:¬(x2<x1))(h1:¬(x0<x2)):¬(x0<x1):=fun h=>h1 (Int.lt_of_lt_of_le h (Int.not_lt.mp h0))
theorem Aj6{x0 x1 x2:Int}(_:¬(x0<x2))(_:¬(x2<x1)):¬(x0<x1):=by omega
theorem Aj7{x0 x1:Int}(h0:¬(x0<x1))(h1:¬(x1<x0)):x0=x1:=Int.le_antisymm (Int.not_lt.mp h1) (Int.not_lt.mp h0)
theorem Afh{x0 x1:Int}(h0:¬(x1<x0))(h1:¬(x1=x0)):x0<x1:=Int.lt_iff_le_and_ne.mpr ⟨Int.not_lt.mp h0,fun e=>h1 e.symm⟩
theorem Aj8{a:Nat}(h0:0<a):(a:Int)-(1:Int)=((a-1:Nat):Int):=(Int.ofNat_sub h0).symm
theorem Aj9{a:Nat}:((a-1:Nat):Int)/(2:Int)=(((a-1)/2:Nat):Int):=rfl
theorem Ag3{a:Nat}(h0:0<a):(0:Int)≤(a:Int):=Int.natCast_nonneg _
theorem Acz{a b:Nat}(h0:a<1000)(h1:b=16777216):a<b:=zD (Nat.lt_trans h0 (by decide:1000 < 16777216)) (zG h1.symm)
theorem Aka{a:Nat}:((a+1:Nat):Int)-(1:Int)=(a:Int):=Int.add_sub_cancel (a:Int) 1
theorem Akb {a0:Nat} (h0:((a0:Nat):Int) > (0:Int)):0 < a0:=Int.natCast_pos.mp h0
theorem Ag4{a b c:Nat}(h0:c<b)(h1:a<c):a<b:=Nat.lt_trans h1 h0
theorem Akc {a0:Nat} (h0:((a0:Nat):Int) > (0:Int)):(0:Int) <= ((a0:Nat):Int):=Int.le_of_lt h0
theorem Akd {a0:Nat} (h0:¬ (((a0:Nat):Int) > (0:Int))):a0=0:=Nat.le_zero.mp (Nat.not_lt.mp fun w=>h0 (Int.natCast_pos.mpr w))
theorem Ake{a b c:Nat}(h0:a≤b):a≤b+c:=zC h0 (zM _ _)
theorem Akf{a b:Nat}(h0:2*a+1≤b)(h1:b<2*a+1+0):False:=Nat.lt_irrefl _ (zD (zD h1 (zI _)) h0)
theorem Ag5{a b c:Nat}(h0:a<2*b+1+(c+1))(h1:¬(a=2*b+1+c)):a<2*b+1+c:=Nat.lt_of_le_of_ne (zK h0) h1
theorem Akg{a b:Nat}(h0:b<2):0<2*a+1+b:=zD (zD (by decide:0 < 1) (Nat.le_add_left _ _)) (zM _ _)
theorem Akh{a b:Nat}(h0:b<2):(2*a+1+b-1)/2=a:=(congrArg (fun x=>(x - 1) / 2) (Nat.add_right_comm _ 1 b)).trans ((Nat.mul_add_div Nat.two_pos a b).trans (congrArg (a+·) (Nat.div_eq_of_lt h0)))
theorem Aki{a b:Nat}(h0:(b-1)/2=a)(h1:0<b):2*a+1≤b:=Nat.add_le_of_le_sub h1 (h0▸Nat.mul_div_le _ 2)
theorem Akj{a b:Nat}(h0:(a-1)/2=b)(h1:0<a):a<2*b+1+2:=(Nat.sub_lt_iff_lt_add (c:=2 * b+2) h1).mp (h0▸Nat.lt_mul_div_succ _ Nat.two_pos)
theorem Akk{a b c:Nat}(h0:((2*a+1+b:Nat):Int)<(c:Int)):2*a+1+b<c:=Int.ofNat_lt.mp h0
theorem Akl{a b:Nat}(h0:b<2):(0:Int)≤((2*a+1+b:Nat):Int):=Int.natCast_nonneg _
theorem Akm{a b c:Nat}(h0:2*a+1+b<c)(h1:¬(((2*a+1+b:Nat):Int)<(c:Int))):False:=h1 (Int.ofNat_lt.mpr h0)
theorem Akn{a:Nat}:(2:Int)*(a:Int)+(1:Int)=((2*a+1+0:Nat):Int):=rfl
theorem Ako{a:Nat}:(2:Int)*(a:Int)+(2:Int)=((2*a+1+1:Nat):Int):=rfl
theorem Akp{a b c:Nat}(h0:b<c)(h1:a=c-b):0<a:=h1▸Nat.sub_pos_of_lt h0
theorem Akq{a b c:Nat}(h0:(a:Int)=(b:Int))(h1:c<a)(h2:c=b):False:=Nat.ne_of_lt h1 (h2.trans (Int.ofNat.inj h0).symm)
theorem Akr{a b c d a4:Nat}(h0:d<a)(h1:a4<b)(h2:b<a)(h3:c=a-d)(h4:a4=d):a-b<c:=h3▸Nat.sub_lt_sub_left h0 (h4▸h1)
theorem Aks{a:Nat}:¬(((a+1:Nat):Int)=(0:Int)):=Int.natCast_ne_zero.mpr (Nat.succ_ne_zero a)
theorem Ag6{a:Nat}:(0:Int)<((a+1:Nat):Int):=Int.natCast_pos.mpr (Nat.succ_pos a)
theorem Akt{a:Nat}:0<a+1:=zA (Nat.zero_le _) (Nat.lt_succ_self _)
theorem Aku{a b:Nat}(h0:b+1+1<1000)(h1:a=b+1):a<1000:=h1▸Nat.lt_of_succ_lt h0
theorem Ag7{x0 x1:Int}(h0:x0<x1):x0≤x1-(1:Int):=Int.le_sub_one_of_lt h0
theorem Ag8{a b:Nat}(h0:¬((b:Int)<(a:Int))):a≤b:=Nat.not_lt.mp fun z=>h0 (Int.ofNat_lt.mpr z)
theorem Ag9{a:Nat}(h0:0<a):(0:Int)<(a:Int):=Int.natCast_pos.mpr h0
theorem Akv{x0:Int}(h0:(0:Int)≤x0):x0=(((Int.toNat x0):Nat):Int):=(Int.toNat_of_nonneg h0).symm
theorem Akw{a:Nat}{x0:Int}(h0:(0:Int)≤x0)(h1:x0<(a:Int)):(Int.toNat x0)<a:=(Int.toNat_lt h0).mpr h1
theorem Akx{a:Nat}(h0:a<3):(0:Int)≤(a:Int):=Int.natCast_nonneg _
theorem Aky{a:Nat}(h0:a<3):(a:Int)≤(1000000000:Int):=Int.ofNat_le.mpr (zL (Nat.lt_trans h0 (by decide:3 < 1000000000)))
theorem Akz{a:Nat}(h0:a<12):(0:Int)≤(a:Int):=Int.natCast_nonneg _
theorem Ak0{a:Nat}(h0:a<12):(a:Int)≤(1000000000:Int):=Int.ofNat_le.mpr (zL (Nat.lt_trans h0 (by decide:12 < 1000000000)))
theorem Ak1{a:Nat}(h0:a<1000000001):(0:Int)≤(a:Int):=Int.natCast_nonneg _
theorem Ak2{a:Nat}(h0:a<1000000001):(a:Int)≤(1000000000:Int):=Int.ofNat_le.mpr (zK h0)
theorem Ak3{a:Nat}(h0:a<2):(0:Int)≤(1000000000:Int)-(a:Int):=Int.sub_nonneg_of_le (Int.ofNat_le.mpr (zC (zL h0) (by decide:2 <= 1000000000)))
theorem Ak4{a:Nat}(h0:a<2):(1000000000:Int)-(a:Int)≤(1000000000:Int):=Int.sub_le_self _ (Int.natCast_nonneg a)
theorem Ak5{a:Nat}(_:a≤900):a≤16777216:=by lia
theorem Ak6{a:Nat}:(a:Int)+(3:Int)=((a+3:Nat):Int):=rfl
theorem Ak7{a b:Nat}(h0:(a:Int)+(3:Int)<(b:Int)):a+3<b:=Int.ofNat_lt.mp h0
theorem Aha{a b c:Nat}(h0:a=c)(h1:¬(b<a)):a≤b:=Nat.not_lt.mp h1
theorem Ahb{a b c:Nat}(h0:a-c=0)(h1:c=b)(h2:¬(a<c)):a=b:=h1▸Nat.le_antisymm (Nat.le_of_sub_eq_zero h0) (Nat.not_lt.mp h2)
theorem Ak8{a b c:Nat}(_:c<b)(_:a=c):a<b:=by lia
theorem Ak9{a b c d:Nat}(h0:a=c+d):a+b=c+b+d:=(congrArg (·+b) h0).trans (Nat.add_right_comm c d b)
theorem Ala{a b c:Nat}:a+b+c+1=a+(b+(c+1)):=congrArg (·+1) (Nat.add_assoc a b c)
theorem Alb{a:Nat}(h0:a≤1000):(-(1073741824:Int))≤(a:Int):=Aez
theorem Alc{a:Nat}(h0:a≤1000):(a:Int)≤(1073741824:Int):=Int.ofNat_le.mpr (zL (zA h0 (by decide:1000 < 1073741824)))
theorem Ald{a:Nat}:(Int.toNat (a:Int))=a:=rfl
theorem Ahc{a b:Nat}(h0:a=b):a≤b:=zG h0
theorem Ale{a b c d a4 a5:Nat}(h0:c=d+a4+1)(h1:a5=a)(h2:a5≤b):a≤b:=zC (zG h1.symm) h2
theorem Ahd{a:Nat}(h0:a≤30):(-(1073741824:Int))≤(a:Int)∧(a:Int)≤(1073741824:Int):=⟨Aez,Int.ofNat_le.mpr (zC h0 (by decide:30 <= 1073741824))⟩
theorem Alf{a b:Nat}(h0:(a:Int)<(b:Int))(h1:b≤30):a≤30:=zL (zD (Int.ofNat_lt.mp h0) h1)
theorem Alg{a b c d:Nat}(h0:(b:Int)<(d:Int))(h1:c=16777216)(h2:a≤30*30)(h3:d≤30):a+b<c:=h1▸zA (Nat.add_le_add h2 (zC (zL (Int.ofNat_lt.mp h0)) h3)) (by decide)
theorem Ahe{a b:Nat}(h0:(a:Int)<(b:Int)):a+1≤b:=Int.ofNat_lt.mp h0
theorem Alh{a:Nat}(h0:1≤a)(h1:a≤30):(1:Int)≤(a:Int):=Int.ofNat_le.mpr h0
theorem Ali{a:Nat}(h0:1≤a)(h1:a≤30):(a:Int)≤(30:Int):=Int.ofNat_le.mpr h1
theorem Alj{a b c:Nat}(h0:1≤b∧b≤30∧1≤a∧a≤30)(h1:c=a):1≤a:=h0.2.2.1
theorem Alk{a b c:Nat}(h0:1≤b∧b≤30∧1≤a∧a≤30)(h1:c=a):a≤30:=h0.2.2.2
theorem Ahf{a b:Nat}(h0:1≤a∧a≤30∧1≤b∧b≤30):0<a:=zD (by decide:0 < 1) h0.1
theorem Alm{a b c:Nat}(h0:1≤b∧b≤30∧1≤c∧c≤30)(h1:a=b):0<a:=zD (zD (by decide:0 < 1) h0.1) (zG h1.symm)
theorem Aln{a b c:Nat}(h0:1≤a∧a≤30∧1≤b∧b≤30)(h1:c=a):a<16777216:=zA h0.2.1 (by decide:30 < 16777216)
theorem Alo {a0 a1 a2:Nat} (h0:a0 < a1):a0≠(a1+a2):=Nat.ne_of_lt (zD h0 (zM _ _))
theorem Alp {a0 a1 a2:Nat} (h0:a0 < a1):a0≠(a1+(1 * a2)):=Nat.ne_of_lt (zD h0 (zM _ _))
theorem Alq{a b c:Nat}(h0:b=a+c+1):a≤b:=zL (zA (zM _ _) (zG h0.symm))
theorem Alr{a b c d:Nat}(h0:b=a+d+1):a≤b+c:=zL (zD (zA (zM _ _) (zG h0.symm)) (zM _ _))
theorem Als {a0 a1 a2 a3:Nat} (h0:a0 < a2) (h1:a1=((a2+a3)+1)):a0≠a1:=Nat.ne_of_lt (Nat.lt_trans (zD h0 (zM _ _)) (zG h1.symm))
theorem Alt{a b:Nat}(h0:¬(b<a)):a+(b-a)=b:=Nat.add_sub_cancel' (Nat.not_lt.mp h0)
theorem Alu{a b:Nat}(h0:b=16777216)(h1:a≤30):a<b:=zD (zA h1 (by decide:30 < 16777216)) (zG h0.symm)
theorem Ahg{a b:Nat}:a≤a+b:=zM _ _
theorem Alv{a b:Nat}(h0:b=16777216)(h1:a≤30*30):a<b:=h0▸zA h1 (by decide)
theorem Ae0{x0 x1:Int}(h0:¬(x1<x0)):x0≤x1:=Int.not_lt.mp h0
theorem Alw{x0 x1 x2:Int}(h0:x0<x1)(h1:x2≤x0)(h2:x1≤x2):False:=Int.lt_irrefl _ (Int.lt_of_lt_of_le h0 (Int.le_trans h2 h1))
theorem Alx{x0 x1 x2:Int}(h0:x0<x1)(h1:x0=x2)(h2:x1≤x2):False:=Int.lt_irrefl _ (Int.lt_of_le_of_lt (Int.le_trans h2 (Int.le_of_eq h1.symm)) h0)
theorem Afi{x0 x1 x2:Int}(h0:x0<x2)(h1:x2≤x1):x0≤x1:=Int.le_of_lt (Int.lt_of_lt_of_le h0 h1)
theorem Afj{x0 x1:Int}(h0:x0<x1)(h1:x1≤x0):False:=Int.not_le.mpr h0 h1
theorem Aly{x0 x1:Int}(h0:x1≤x0)(h1:x0≤x1):x0=x1:=Int.le_antisymm h1 h0
theorem Alz{x0 x1:Int}(h0:x0≤x1)(h1:x1≤x0):x0=x1:=Int.le_antisymm h0 h1
theorem Al0{a:Nat}(h0:a<8):(0:Int)≤(a:Int):=Int.natCast_nonneg _
theorem Al1{a b:Nat}(h0:a<4)(h1:b<5):1≤1+a∧1+a≤30∧1≤1+b∧1+b≤30:=⟨zM _ _,zC (zJ (zL h0) 1) (by decide),zM _ _,zC (zJ (zL h1) 1) (by decide)⟩
theorem Al2{a:Nat}(h0:a<4):1+a≤4:=Nat.add_comm a 1▸h0
theorem Al3{a:Nat}(h0:a<5):1+a≤5:=Nat.add_comm a 1▸h0
theorem Al4{a:Nat}(h0:a≤4*5):a≤63:=zL (zA h0 (by decide:(4 * 5) < 63))
theorem Al5{a b:Nat}(h0:1≤b∧b≤30∧1≤a∧a≤30):a≤1000:=zL (zA h0.2.2.2 (by decide:30 < 1000))
theorem Al6{a b c:Nat}(h0:1≤c∧c≤30∧1≤a∧a≤30)(h1:b=16777216):a<b:=h1▸zA h0.2.2.2 (by decide)
theorem Ahh{a b c:Nat}(h0:1≤b∧b≤30∧1≤c∧c≤30)(h1:a<b):a≤29:=zK (zD h1 h0.2.1)
theorem Afk{a b:Nat}(h0:1≤b∧b≤30∧1≤a∧a≤30):a≤30:=h0.2.2.2
theorem Al7{a b c d:Nat}(h0:1≤c∧c≤30∧1≤d∧d≤30)(h1:b<d)(h2:a≤29*30):a+b≤900:=zC (Nat.add_le_add h2 (zC (zL h1) h0.2.2.2)) (by decide)
theorem Ahi{a b c:Nat}(_:1≤b∧b≤30∧1≤c∧c≤30)(_:a<b):a≤16777216:=by lia
theorem Al8{a b c:Nat}(h0:b=16777216)(h1:a=c)(h2:c≤1000):a<b:=zD (zA (zC (zG h1) h2) (by decide:1000 < 16777216)) (zG h0.symm)
theorem Al9{a b:Nat}:a+1+2*b+1=a+2+2*b:=(Nat.add_right_comm (a+1) 1 (2 * b)).symm
theorem Ahj {a0 a1:Nat}:a0≠((a0+2)+(2 * a1)):=Nat.ne_of_lt (zD (Nat.lt_add_of_pos_right (by decide)) (zM _ _))
theorem Ama{a b:Nat}:a+2+2*b=a+1+2*b+1:=Nat.add_right_comm (a+1) 1 (2 * b)
theorem Ahk{a b:Nat}(h0:1≤a∧a≤30∧1≤b∧b≤30):(-(1073741824:Int))≤(a:Int):=Int.le_trans (by decide) (Int.natCast_nonneg _)
theorem Ahl{a b:Nat}(h0:1≤a∧a≤30∧1≤b∧b≤30):(a:Int)≤(1073741824:Int):=Int.ofNat_le.mpr (zL (zA h0.2.1 (by decide:30 < 1073741824)))
theorem Amc{a b c:Nat}(h0:(a:Int)<(b:Int))(h1:1≤b∧b≤30∧1≤c∧c≤30):a<1000:=zD (Int.ofNat_lt.mp h0) (zC h1.2.1 (by decide))
theorem Amd{a b c:Nat}(h0:1≤b∧b≤30∧1≤a∧a≤30)(h1:c=a):a≤1000:=zL (zA h0.2.2.2 (by decide:30 < 1000))
theorem Ame{a b:Nat}:a+1+2*b+1+1=a+1+2*(b+1):=rfl
theorem Amf{a b c d:Nat}(h0:1≤b∧b≤30∧1≤c∧c≤30)(h1:0<d)(h2:a=c):0<a:=zD (zD (by decide:0 < 1) h0.2.2.1) (zG h2.symm)
theorem Amg{a b:Nat}{x0 x1:Int}(h0:(0:Int)≤x0∧x0<(a:Int)∧(0:Int)≤x1∧x1<(b:Int)):x0=(((Int.toNat x0):Nat):Int):=(Int.toNat_of_nonneg h0.1).symm
theorem Amh{a b:Nat}{x0 x1:Int}(h0:(0:Int)≤x1∧x1<(a:Int)∧(0:Int)≤x0∧x0<(b:Int)):x0=(((Int.toNat x0):Nat):Int):=(Int.toNat_of_nonneg h0.2.2.1).symm
theorem Ami{a b:Nat}{x0 x1:Int}(h0:(0:Int)≤x0∧x0<(a:Int)∧(0:Int)≤x1∧x1<(b:Int)):(Int.toNat x0)<a:=(Int.toNat_lt h0.1).mpr h0.2.1
theorem Amj{a b:Nat}{x0 x1:Int}(h0:(0:Int)≤x1∧x1<(b:Int)∧(0:Int)≤x0∧x0<(a:Int)):(Int.toNat x0)<a:=(Int.toNat_lt h0.2.2.1).mpr h0.2.2.2
theorem Amk{a b c d:Nat}(h0:a<b)(h1:c<d):(0:Int)≤(a:Int)∧(a:Int)<(b:Int)∧(0:Int)≤(c:Int)∧(c:Int)<(d:Int):=⟨Int.natCast_nonneg _,Int.ofNat_lt.mpr h0,Int.natCast_nonneg _,Int.ofNat_lt.mpr h1⟩
theorem Ahm{a:Nat}{x0:Int}(h0:(0:Int)≤x0∧x0≤(a:Int)-(1:Int)):(0:Int)≤x0:=h0.1
theorem Ahn{a:Nat}{x0:Int}(h0:(0:Int)≤x0∧x0≤(a:Int)-(1:Int)):x0<(a:Int):=Int.lt_of_le_sub_one h0.2
theorem Aho{a b:Nat}{x0 x1:Int}(h0:(0:Int)≤x1∧x1<(b:Int)∧(0:Int)≤x0∧x0<(a:Int)):x0≤(a:Int)-(1:Int):=Int.le_sub_one_of_lt h0.2.2.2
theorem Ahp{a b:Nat}{x0 x1:Int}(h0:(0:Int)≤x0∧x0<(a:Int)∧(0:Int)≤x1∧x1<(b:Int)):x0≤(a:Int)-(1:Int):=Int.le_sub_one_of_lt h0.2.1
theorem Aml{a b c:Nat}(h0:c<1000)(h1:b=16777216)(h2:a≤c):a<b:=h1▸Nat.lt_trans (zA h2 h0) (by decide)
theorem Ahq {a0 a1 a2:Nat} (h0:a0 < a2) (h1:a2 <= a1):a0≠a1:=Nat.ne_of_lt (zD h0 h1)
theorem Ahr{a b:Nat}(h0:(a:Int)=(b:Int))(h1:a<b):False:=Nat.ne_of_lt h1 (Int.ofNat.inj h0)
theorem Amm{a b c:Nat}(h0:a<(min b c)):a<b:=zD h0 (Nat.min_le_left _ _)
theorem Ahs{a b:Nat}(h0:a<b):a+1≤b:=h0
theorem Ae1{a b:Nat}(h0:a<2000)(h1:b=16777216):a<b:=zD (Nat.lt_trans h0 (by decide:2000 < 16777216)) (zG h1.symm)
theorem Afl{a b c:Nat}(h0:a≤b+c)(h1:c≤4):a≤b+4:=zC h0 (zJ h1 _)
theorem Amn{a b c d:Nat}(h0:b<990)(h1:c<d)(h2:a≤b+c)(h3:d≤4)(h4:c≤4):a<1000:=zA h2 (Nat.lt_trans (Nat.add_lt_add_of_lt_of_le h0 h4) (by decide))
theorem Aht{a b c d:Nat}(h0:b<1900)(h1:c<d)(h2:a≤b+c)(h3:d≤4)(h4:c≤4):a<2000:=zA h2 (Nat.lt_trans (Nat.add_lt_add_of_lt_of_le h0 h4) (by decide))
theorem Amo{a b c:Nat}(h0:a+5*b=c)(h1:c<990):a<1000:=Nat.lt_trans (zA (zC (zM _ _) (zG h0)) h1) (by decide:990 < 1000)
theorem Amp{a b c d a4 a5:Nat}(h0:b+4*c<1800)(h1:d+5*c=a4)(h2:a4<990)(h3:d=a5+1)(h4:a=a5):a<990:=h4▸Nat.lt_trans (h3▸Nat.lt_succ_self a5) (zA (zM _ _) (h1▸h2))
theorem Amq{a b:Nat}(h0:a+4*b<1800):a<1900:=zA (zM _ _) (Nat.lt_trans h0 (by decide))
theorem Amr{a b c:Nat}(h0:b+4*c<1800)(h1:a+4*c<1800):a<1900:=Nat.lt_trans (zA (zM _ _) h1) (by decide:1800 < 1900)
theorem Ams{a b c d a4 a5 a6:Nat}(h0:d+5*a4=c)(h1:b+1≤a4)(h2:d=a5+1)(h3:a6=a5)(h4:a≤a6+4):a+5*b<c:=h0▸h2▸Agr (h3▸h4) h1
theorem Amt{a b c d a4 a5 a6:Nat}(h0:c+5*d=a4)(h1:b+1≤d)(h2:a4<990)(h3:c=a5+1)(h4:a6=a5)(h5:a≤a6+4):a+5*b<990:=Nat.lt_trans (h3▸Agr (h4▸h5) h1) (h0▸h2)
theorem Ahu{a b c d:Nat}(h0:c+4*d<1800)(h1:b+1≤d)(h2:a≤c+4):a+4*b<1800:=zA (Aii h2 h1) h0
theorem Amu{a b c d a4:Nat}(h0:d+5*b=c)(h1:d=a4+1)(h2:a=a4):a+5*b<c:=zD (Nat.add_lt_add_right (h2▸h1▸Nat.lt_succ_self a4) _) (zG h0)
theorem Amv{a b c d a4:Nat}(h0:c+5*b=d)(h1:d<990)(h2:c=a4+1)(h3:a=a4):a+5*b<990:=zA (zC (Nat.add_le_add_right (h3▸h2▸Nat.le_succ a4) _) (zG h0)) h1
theorem Amw{a b c:Nat}(h0:a+5*b=c)(h1:¬((0:Int)<(a:Int))):a=0:=Nat.le_zero.mp (Nat.not_lt.mp fun w=>h1 (Int.natCast_pos.mpr w))
theorem Amx{a b c d:Nat}(h0:b<c)(h1:d≤30*30)(h2:c≤d)(h3:a≤b):a<1000:=zA (zC h3 (zC (zL h0) (zC h2 h1))) (by decide)
theorem Ahv{a b c d:Nat}(h0:b<c)(h1:d≤30*30)(h2:c≤d)(h3:a≤b):a<2000:=zA (zC h3 (zC (zL h0) (zC h2 h1))) (by decide)
theorem Ahw{a:Nat}:a≤a+1:=zL (Nat.lt_succ_self _)
theorem Amy{a:Nat}:a≤a+3:=zL (Nat.lt_add_of_pos_right (by decide))
theorem Amz {a0:Nat}:a0≠(a0+1):=Nat.ne_of_lt (Nat.lt_succ_self _)
theorem Am0{a b:Nat}(h0:a=b+2):a≤b+2:=zG h0
theorem Am1{a b:Nat}(h0:a=b+2):a≤b+3:=h0▸Nat.le_succ _
theorem Am2{a:Nat}:a+3-(a+2)=1:=Nat.add_sub_add_left a 3 2
theorem Am3{a b c:Nat}(h0:b=c)(h1:c≤132)(h2:a≤c):a+5*b<990:=zA (Nat.add_le_add (zC h2 h1) (Nat.mul_le_mul_left 5 (zC (zG h0) h1))) (by decide)
theorem Ahx{a b c:Nat}(h0:b=c)(h1:c≤132)(h2:a≤c):a+4*b<1800:=zA (Nat.add_le_add (zC h2 h1) (Nat.mul_le_mul_left 4 (zC (zG h0) h1))) (by decide)
theorem Am4{a b c d:Nat}(_:1≤c∧c≤30∧1≤d∧d≤30)(_:b<d)(_:a≤29*30):a+b≤16777216:=by lia
theorem Am5{a:Nat}(h0:a<5):(0:Int)≤(a:Int):=Int.natCast_nonneg _
theorem Am6{a b c:Nat}(h0:1≤a∧a≤30∧1≤b∧b≤30)(h1:c=a):(-(1073741824:Int))≤(a:Int):=Aez
theorem Am7{a b c:Nat}(h0:1≤a∧a≤30∧1≤b∧b≤30)(h1:c=a):(a:Int)≤(1073741824:Int):=Int.ofNat_le.mpr (zL (zA h0.2.1 (by decide:30 < 1073741824)))
theorem Am8{a b c:Nat}(h0:(a:Int)<(b:Int))(h1:c=b):a<b:=Int.ofNat_lt.mp h0
theorem Ahy{a b:Nat}(h0:1≤b∧b≤30∧1≤a∧a≤30):(-(1073741824:Int))≤(a:Int):=Aez
theorem Ahz{a b:Nat}(h0:1≤b∧b≤30∧1≤a∧a≤30):(a:Int)≤(1073741824:Int):=Int.ofNat_le.mpr (zL (zA h0.2.2.2 (by decide:30 < 1073741824)))
theorem Am9{a b c d:Nat}(h0:(a:Int)<(b:Int))(h1:1≤b∧b≤30∧1≤c∧c≤30)(h2:d=b):a≤29:=zK (zD (Int.ofNat_lt.mp h0) h1.2.1)
theorem Ana{a b c d a4:Nat}(h0:(b:Int)<(c:Int))(h1:1≤d∧d≤30∧1≤c∧c≤30)(h2:a4≤29*30)(h3:a≤a4+b):a<1000:=zA h3 (zD (Nat.add_lt_add_of_le_of_lt h2 (Int.ofNat_lt.mp h0)) (zC (zJ h1.2.2.2 _) (by decide)))
theorem Anb{a b:Nat}(h0:1≤a∧a≤30∧1≤b∧b≤30):a<16777216:=zA h0.2.1 (by decide:30 < 16777216)
theorem Anc{a b c:Nat}(h0:b<1000)(h1:c<b)(h2:a≤c):a<1000:=zA h2 (Nat.lt_trans h1 h0)
theorem Ane{a b:Nat}(h0:a<100)(h1:b=16777216):a<b:=zD (Nat.lt_trans h0 (by decide:100 < 16777216)) (zG h1.symm)
theorem Anf{a:Nat}(h0:a≤1):0+a<100:=zA (zC (zG (Nat.zero_add _)) h0) (by decide:1 < 100)
theorem Ang{a b:Nat}(h0:a≤1)(h1:b≤1):0+a+b<100:=zA (Nat.add_le_add (zJ h0 0) h1) (by decide)
theorem Anh{a b c:Nat}(h0:a≤1)(h1:b≤1)(h2:c≤1):0+a+b+c<100:=zA (Nat.add_le_add (Nat.add_le_add (zJ h0 0) h1) h2) (by decide)
theorem Ani{a:Nat}(h0:a≤4):a<1000:=zA h0 (by decide:4 < 1000)
theorem Anj{a b:Nat}{x0 x1:Int}(h0:(0:Int)≤x0∧x0<(a:Int)∧(0:Int)≤x1∧x1<(b:Int)):(0:Int)≤x0:=h0.1
theorem Ank{a b:Nat}{x0 x1:Int}(h0:(0:Int)≤x1∧x1<(a:Int)∧(0:Int)≤x0∧x0<(b:Int)):(0:Int)≤x0:=h0.2.2.1
theorem Anl{a b:Nat}{x0 x1:Int}(h0:((0:Int)≤x0∧x0≤(a:Int)-(1:Int))∧(0:Int)≤x1∧x1≤(b:Int)-(1:Int)):(0:Int)≤x0∧x0<(a:Int)∧(0:Int)≤x1∧x1<(b:Int):=⟨h0.1.1,Int.lt_of_le_sub_one h0.1.2,h0.2.1,Int.lt_of_le_sub_one h0.2.2⟩
theorem Anm {a0:Nat} (h0:a0≠2):¬ (((a0:Nat):Int)=(2:Int)):=fun w=>h0 (Int.ofNat.inj w)
theorem Ann{x0 x1 x2:Int}(h0:x0<x2)(h1:x2≤x1):x0<x1:=Int.lt_of_lt_of_le h0 h1
theorem Ano{a b:Nat}(h0:a≤b*1):a≤b+1:=zL (zA (zC h0 (zG (Nat.mul_one _))) (Nat.lt_succ_self _))
theorem Anp{a b:Nat}(h0:a≤b*1):a<b+1:=Nat.lt_succ_of_le (zC h0 (zG (Nat.mul_one _)))
theorem Anq {x0 x1:Int} (h0:x1 > x0):¬ (x0 > x1):=fun z=>Int.lt_irrefl _ (Int.lt_trans z h0)
theorem Anr {x0 x1:Int} (h0:¬ (x1 > x0)) (h1:¬ (x0 > x1)):x0=x1:=Int.le_antisymm (Int.not_lt.mp h1) (Int.not_lt.mp h0)
theorem Ans{a:Nat}(h0:a<5000):a<16777216:=Nat.lt_trans h0 (by decide:5000 < 16777216)
theorem Ant{a b c d:Nat}(h0:b<d)(h1:a≤c+1):a+b≤c+d:=zC (Nat.add_le_add_right h1 _) (zC (zG (Nat.add_right_comm _ _ _)) (zJ h0 _))
theorem Anu{a b c d:Nat}(h0:b+c<5000)(h1:a+d≤b+c):a<5000:=zA (zC (zM _ _) h1) h0
theorem Anv{a b c d:Nat}(h0:a<b+1∧c<d)(h1:¬(a=b)):a<b:=Nat.lt_of_le_of_ne (zK h0.1) h1
theorem Anw{a b c:Nat}(h0:c+b<5000)(h1:a+b≤c+b):a+b<5000:=zA h1 h0
theorem Anx{a b c d:Nat}(h0:c+d<5000)(h1:a+b≤c+d):a+b<5000:=zA h1 h0
theorem Any{a b c:Nat}(h0:b<c)(h1:c≤900)(h2:a≤b):a<16777216:=zA (zC h2 (zC (zL h0) h1)) (by decide)
theorem Anz{a b c d:Nat}(h0:c≤63*(63+1))(h1:d≤900)(h2:a≤d)(h3:b≤c):a+b<5000:=zA (Nat.add_le_add (zC h2 h1) (zC h3 h0)) (by decide)
theorem Ah0{x0 x1:Int}(h0:x0=x1):¬(x0<x1):=fun z=>Int.lt_irrefl _ (Int.lt_of_le_of_lt (Int.le_of_eq h0.symm) z)
theorem Ah1{x0 x1 x2 x3:Int}(h0:x1<x0∨x1=x0∧x3<x2):¬(x0<x1∨x0=x1∧x2<x3):=h0.elim (fun p=>fun h=>h.elim (Int.lt_asymm p) fun q=>Int.ne_of_lt p q.1.symm) fun p=>fun h=>h.elim (fun q=>Int.ne_of_lt q p.1.symm) fun q=>Int.lt_asymm p.2 q.2
theorem An0{x0 x1 x2 x3 x4 x5:Int}(h0:¬(x4<x1∨x4=x1∧x5<x3))(h1:¬(x0<x4∨x0=x4∧x2<x5)):¬(x0<x1∨x0=x1∧x2<x3):=fun h=>h.elim (fun q=>h1 (.inl (Int.lt_of_lt_of_le q (Int.not_lt.mp fun z=>h0 (.inl z))))) fun h=>have e:x4=x1:=Int.le_antisymm (h.1▸Int.not_lt.mp fun z=>h1 (.inl z)) (Int.not_lt.mp fun z=>h0 (.inl z));h1 (.inr ⟨h.1.trans e.symm,Int.lt_of_lt_of_le h.2 (Int.not_lt.mp fun z=>h0 (.inr ⟨e,z⟩))⟩)
theorem An1{x0 x1 x2 x3:Int}(h0:¬(x0<x1∨x0=x1∧x2<x3))(h1:¬(x1<x0∨x1=x0∧x3<x2)):x0=x1:=Int.le_antisymm (Int.not_lt.mp fun z=>h1 (.inl z)) (Int.not_lt.mp fun z=>h0 (.inl z))
theorem An2{x0 x1 x2 x3:Int}(h0:¬(x2<x3∨x2=x3∧x0<x1))(h1:¬(x3<x2∨x3=x2∧x1<x0)):x0=x1:=have e:x2=x3:=Int.le_antisymm (Int.not_lt.mp fun z=>h1 (.inl z)) (Int.not_lt.mp fun z=>h0 (.inl z));Int.le_antisymm (Int.not_lt.mp fun z=>h1 (.inr ⟨e.symm,z⟩)) (Int.not_lt.mp fun z=>h0 (.inr ⟨e,z⟩))
theorem An3{a:Nat}(h0:a≤63):a<64:=Nat.lt_succ_of_le h0
theorem An4{a b c d a4 a5:Nat}(h0:b+c=d+a4)(h1:b+a=d+a5)(h2:d≤63)(h3:a≤d):a<1000:=zA (zC h3 h2) (by decide:63 < 1000)
theorem An5{a b c d a4 a5:Nat}(h0:b+c=d+a4)(h1:b+a5=d+a)(h2:d≤63)(h3:b≤63)(h4:a5≤d):a<1000:=zA (zC (Nat.le_of_add_le_add_right (zC (zJ h4 a) (zG ((Nat.add_comm a d).trans h1.symm)))) h3) (by decide:63 < 1000)
theorem An6{a b c d a4 a5:Nat}(h0:a+a4=c+a5)(h1:a+b=c+d):a+(b+1)=c+(d+1):=congrArg (·+1) h1
theorem Ah2 {a0 a1 a2:Nat} (h0:a1 < a2) (h1:a2 <= a0):a0≠a1:=Nat.ne_of_gt (zD h0 h1)
theorem An7{a:Nat}(h0:(0:Int)<(a:Int)):a-1+1=a:=Nat.sub_add_cancel (Int.natCast_pos.mp h0)
theorem An8{a b c d a4:Nat}(h0:(0:Int)<(a4:Int))(h1:d+1=a4)(h2:a+b=c+a4)(h3:a≤63)(h4:b≤c):a-1+b=c+d:=(Nat.sub_add_comm (Ags h1 h2 h4)).symm.trans (congrArg (· - 1) (h2.trans (congrArg (c+·) h1.symm)))
theorem Ah3{a b c d a4:Nat}(h0:(0:Int)<(b:Int))(h1:c+1=b)(h2:a+d=a4+b)(h3:a≤63)(h4:d≤a4):a-1≤63:=zC (Nat.sub_le _ _) h3
theorem An9{a b c d a4:Nat}(h0:(0:Int)<(b:Int))(h1:c+1=b)(h2:a+d=a4+b)(h3:a≤63)(h4:d≤a4):a-1<a:=Nat.sub_lt (Ags h1 h2 h4) Nat.one_pos
theorem Aoa{a:Nat}(_:¬((0:Int)<(a:Int))):a=0:=by lia
theorem Aob{a:Nat}(h0:a≤63):a≤132:=zL (zA h0 (by decide:63 < 132))
theorem Aoc{x0:Int}(h0:x0≤(1000000000:Int)):x0<(1000000001:Int):=Int.lt_of_le_of_lt h0 (by decide:(1000000000:Int) < (1000000001:Int))
theorem Aod{a b c:Nat}(h0:b=16777216)(h1:c≤63)(h2:a≤c):a<b:=zD (zA (zC h2 h1) (by decide:63 < 16777216)) (zG h0.symm)
theorem Aoe{a b:Nat}(_:1≤a∧a≤30∧1≤b∧b≤30):a≤16777216:=by lia
theorem Aof{a:Nat}(_:a≤63):(-(1073741824:Int))≤(a:Int):=by lia
theorem Aog{a:Nat}(h0:a≤63):(a:Int)≤(1073741824:Int):=Int.ofNat_le.mpr (zL (zA h0 (by decide:63 < 1073741824)))
theorem Aoh{a:Nat}(h0:a≤63):(a:Int)≤(100000:Int):=Int.ofNat_le.mpr (zL (zA h0 (by decide:63 < 100000)))
theorem Aoi {a0:Nat}:(a0+1)≠a0:=Nat.ne_of_gt (Nat.lt_succ_self _)
theorem Aoj{a b:Nat}(_:¬((b:Int)<(a:Int))):a≤b+1:=by lia
theorem Aok{x0:Int}(h0:(0:Int)≤x0)(h1:x0≤(1000000000:Int)):¬((1000000001:Int)≤x0):=fun z=>Int.lt_irrefl _ (Int.lt_of_lt_of_le (Int.lt_of_lt_of_le (by decide:(1000000000:Int) < (1000000001:Int)) z) h1)
theorem Aol{a b:Nat}(h0:b≤63)(h1:a≤b):a<16777216:=zA (zC h1 h0) (by decide:63 < 16777216)
theorem Aom{a b c:Nat}(h0:1≤a∧a≤30∧1≤b∧b≤30)(h1:c=a):0<a:=zD (by decide:0 < 1) h0.1
theorem Aon{a b:Nat}(h0:1≤b∧b≤30∧1≤a∧a≤30):0<a:=zD (by decide:0 < 1) h0.2.2.1
theorem Aoo{a b c:Nat}(h0:1≤a∧a≤30∧1≤b∧b≤30)(h1:c=a):¬((a:Int)=(0:Int)):=Int.natCast_ne_zero.mpr (Nat.ne_of_gt h0.1)
theorem Aop{a b:Nat}(h0:1≤b∧b≤30∧1≤a∧a≤30):¬((a:Int)=(0:Int)):=Int.natCast_ne_zero.mpr (Nat.ne_of_gt h0.2.2.1)
theorem Aoq{a b:Nat}:¬((0:Int)≤(a:Int)∧(a:Int)<(a:Int)∧(0:Int)≤(0:Int)∧(0:Int)<(b:Int)):=fun z=>Nat.lt_irrefl _ (Int.ofNat_lt.mp z.2.1)
theorem Aor{a b:Nat}:¬((0:Int)≤(-(1:Int))∧(-(1:Int))<(a:Int)∧(0:Int)≤(0:Int)∧(0:Int)<(b:Int)):=fun z=>Int.lt_irrefl _ (Int.lt_of_lt_of_le (by decide:(-(1:Int)) < (0:Int)) z.1)
theorem Aos{a b:Nat}:¬((0:Int)≤(0:Int)∧(0:Int)<(a:Int)∧(0:Int)≤(b:Int)∧(b:Int)<(b:Int)):=fun h=>Int.lt_irrefl _ h.2.2.2
theorem Aot{a b:Nat}:¬((0:Int)≤(0:Int)∧(0:Int)<(a:Int)∧(0:Int)≤(-(1:Int))∧(-(1:Int))<(b:Int)):=fun z=>Int.lt_irrefl _ (Int.lt_of_lt_of_le (by decide:(-(1:Int)) < (0:Int)) z.2.2.1)
theorem Aou{a:Nat}(h0:a<9):(0:Int)≤(a:Int):=Int.natCast_nonneg _
theorem Aov {a0:Nat} (h0:(((a0:Nat):Int) - (1:Int)) > (0:Int)):(((a0:Nat):Int) - (1:Int))=(((a0 - 1):Nat):Int):=(Int.ofNat_sub (Int.ofNat_le.mp (Int.le_of_lt (Int.lt_of_sub_pos h0)))).symm
theorem Aow {a0:Nat} (h0:¬ ((((a0:Nat):Int) - (1:Int)) > (0:Int))):(0:Int)=(((a0 - 1):Nat):Int):=(congrArg Int.ofNat (Nat.sub_eq_zero_of_le (Int.ofNat_le.mp (Int.le_of_sub_nonpos (Int.not_lt.mp h0))))).symm
theorem Aox{a b:Nat}(h0:b≤63)(h1:a≤b):a≤63:=zC h1 h0
theorem Aoy{a:Nat}(h0:a≤63):a<1000:=zA h0 (by decide:63 < 1000)
theorem Aoz{a:Nat}(h0:a≤63):a≤900:=zL (zA h0 (by decide:63 < 900))
theorem Af {P:Prop} (h:∀ G:Prop,(P -> G) -> G):P:=h P id
theorem Ae {α:Type} {a:α} {P:Prop} (h:(none:Option α)=some a):P:=nomatch h
theorem Am {P:Prop} (h:false=true):P:=nomatch h
open PySem
noncomputable section
inductive Val where
  | none
  | bool (b:Bool)
  | int (i:Int)
  | str (s:Str)
  | tup (vs:List Val)
  | loc (l:Nat)
  | script (ns:List Int)
  | rng (n:Int)
  | exc (c:Nat)
noncomputable def Zk (a b:List Val):Bool:=@decide (a=b) (Classical.propDecidable _)
theorem Vm (a b:List Val) (h:Zk a b=true):a=b:=@of_decide_eq_true _ (Classical.propDecidable _) h
theorem P5 (a:List Val):Zk a a=true:=@decide_eq_true _ (Classical.propDecidable _) rfl
noncomputable abbrev Key:=Int × Int
inductive HObj where
  | list (xs:List Val)
  | dict (es:List (Key × Val))
  | inst (c:Nat) (fs:List (Nat × Val))
  | hid
noncomputable abbrev Hp:=List HObj
inductive Res (α:Type) where
  | ok (a:α) (H:Hp)
  | exc (c:Nat) (H:Hp)
  | bad
theorem D4 {α:Type} {a:α} {H:Hp} {P:Prop} (h:(Res.bad:Res α)=.ok a H):P:=nomatch h
theorem J9 {α:Type} {a:α} {c:Nat} {H H':Hp} {P:Prop} (h:(Res.exc c H':Res α)=.ok a H):P:=nomatch h
noncomputable def M (α:Type):=Hp -> Res α
namespace M
noncomputable def ret {α:Type} (a:α):M α:=fun H=>.ok a H
noncomputable def bnd {α β:Type} (m:M α) (f:α -> M β):M β:=fun H =>
  match m H with
  | .ok a H'=>f a H'
  | .exc c H'=>.exc c H'
  | .bad=>.bad
noncomputable def bad {α:Type}:M α:=fun _=>.bad
noncomputable def raise {α:Type} (c:Nat):M α:=fun H=>.exc c H
noncomputable def ofOpt {α:Type}:Option α -> M α
  | some a=>ret a
  | none=>bad
noncomputable def look {α:Type} (f:Hp -> Option α):M α:=fun H =>
  match f H with
  | some a=>.ok a H
  | none=>.bad
noncomputable def quiet {α:Type} (m:M α):M α:=fun H =>
  match m H with
  | .exc _ _=>.bad
  | r=>r
noncomputable def alloc (o:HObj):M Val:=fun H=>.ok (.loc H.length) (H++[o])
noncomputable def put (l:Nat) (o:HObj):M Unit:=fun H=>.ok () (H.set l o)
end M
theorem Dt {α β:Type} {m:M α} {f:α -> M β} {H H':Hp} {a:α} (h:m H=.ok a H'):(m.bnd f) H=f a H':=by
  unfold M.bnd;rw [h]
theorem E2 {α β:Type} {m:M α} {f:α -> M β} {H H':Hp} {c:Nat} (h:m H=.exc c H'):(m.bnd f) H=.exc c H':=by
  unfold M.bnd;rw [h]
theorem C9 {α β:Type} {m:M α} {f:α -> M β} {H:Hp} (h:m H=.bad):(m.bnd f) H=.bad:=by
  unfold M.bnd;rw [h]
inductive BOp where
  | add | sub | mul | fdiv | mod
inductive COp where
  | eq | ne | lt | le | gt | ge | is | isNot | isin | notin
inductive Ty where
  | int | bool | str | tuple | list
  | cls (c:Nat)
inductive BF where
  | len | range | list | sorted | max2 | sortedSet
inductive BM where
  | append | pop | get2 | rstrip
set_option genCtorIdx false in
mutual
inductive ME where
  | none
  | bool (b:Bool)
  | int (i:Int)
  | str (s:Str)
  | glob (k:Nat)
  | var (i:Nat)
  | bin (op:BOp) (a b:ME)
  | neg (a:ME)
  | not (a:ME)
  | and (a b:ME)
  | or (a b:ME)
  | cmp (op:COp) (a b:ME)
  | cmp2 (op1 op2:COp) (a b c:ME)
  | sub (a i:ME)
  | tup (es:MEs)
  | list (es:MEs)
  | dict
  | attr (a:ME) (n:Nat)
  | call (f:Nat) (es:MEs)
  | new (c:Nat) (es:MEs)
  | umeth (a:ME) (m:Nat) (es:MEs)
  | bf (f:BF) (es:MEs)
  | bm (a:ME) (m:BM) (es:MEs)
  | isinst (a:ME) (t:Ty)
  | comp (elt:ME) (it:ME) (cond:MEo)
inductive MEo where
  | none
  | some (e:ME)
inductive MEs where
  | nil
  | cons (e:ME) (es:MEs)
end
set_option genCtorIdx false in
mutual
inductive MS where
  | expr (e:ME)
  | assign (i:Nat) (e:ME)
  | setattr (o:ME) (n:Nat) (e:ME)
  | setitem (o i:ME) (e:ME)
  | ret (e:MEo)
  | ite (c:ME) (t f:MSs)
  | loop (c:ME) (body:MSs)
  | each (i:Nat) (it:ME) (body:MSs)
  | eachZip (i j:Nat) (a b:ME) (body:MSs)
  | raise (c:Nat) (msg:Str)
  | tryx (body:MSs) (hs:MHs)
inductive MSs where
  | nil
  | cons (s:MS) (ss:MSs)
inductive MHs where
  | nil
  | cons (c:Nat) (i:Option Nat) (body:MSs) (hs:MHs)
end
structure MFun where
  arity:Nat
  nvars:Nat
  body:MSs
structure Tab where
  funs:List MFun
  /-- of each class: its methods,by the name's number;number 0 is __init__ -/
  meths:List (List (Nat × Nat))
  /-- of each class: the classes that it stands under (itself too) -/
  subs:List (List Nat)
  globs:List Val
noncomputable def Tab.meth (T:Tab) (c m:Nat):Option Nat:=(T.meths[c]?).bind fun l=>l.lookup m
noncomputable def Tab.sub (T:Tab) (c d:Nat):Bool:=((T.subs[c]?).getD []).contains d
noncomputable def Tab.isExc (T:Tab) (c:Nat):Bool:=(T.meth c 0).isNone && decide (2 <= ((T.subs[c]?).getD []).length)
mutual
noncomputable def I9 (K:Nat -> Bool):ME -> Bool
  | .none=>true
  | .bool _=>true
  | .int _=>true
  | .str _=>true
  | .var _=>true
  | .bin _ a b=>I9 K a && I9 K b
  | .cmp _ a b=>I9 K a && I9 K b
  | .isinst a _=>I9 K a
  | .call f es=>K f && calmEs K es
  | .bm a m es=>(match m with | .rstrip=>true | _=>false) && I9 K a && calmEs K es
  | _=>false
noncomputable def calmEs (K:Nat -> Bool):MEs -> Bool
  | .nil=>true
  | .cons e es=>I9 K e && calmEs K es
end
noncomputable def Afm (K:Nat -> Bool):MEo -> Bool
  | .none=>true
  | .some e=>I9 K e
mutual
noncomputable def Ac3 (K:Nat -> Bool):MS -> Bool
  | .assign _ e=>I9 K e
  | .ret e=>Afm K e
  | .ite c t f=>I9 K c && calmSs K t && calmSs K f
  | _=>false
noncomputable def calmSs (K:Nat -> Bool):MSs -> Bool
  | .nil=>true
  | .cons s ss=>Ac3 K s && calmSs K ss
end
noncomputable def Fh (T:Tab) (k:Nat):Bool:=match T.funs[k]? with
  | some f=>calmSs (fun _=>false) f.body
  | none=>false
noncomputable def lid:Nat:=16777216
noncomputable def I1 (f:Val -> Option PyData):List Val -> Option (List PyData)
  | []=>some []
  | x :: xs =>
    match f x,I1 f xs with
    | some d,some ds=>some (d :: ds)
    | _,_=>none
noncomputable def Rj:Val -> Option PyData
  | .none=>some .none
  | .bool b=>some (.bool b)
  | .int i=>some (.int i)
  | .str s=>if PyData.strOk s=true then some (.str s) else none
  | _=>none
noncomputable def A5 (H:Hp):Nat -> Val -> Option PyData
  | 0,v=>Rj v
  | n+1,v =>
    match v with
    | .tup vs=>(I1 (A5 H n) vs).map .tuple
    | .loc l =>
      match H[l]? with
      | some (.list xs)=>(I1 (A5 H n) xs).map .list
      | _=>none
    | v=>Rj v
noncomputable def Fi:Nat:=6
noncomputable def G9 (H:Hp) (a b:Val):Option Bool :=
  match A5 H Fi a,A5 H Fi b with
  | some x,some y=>some (PyData.eqv x y)
  | _,_=>none
noncomputable def lts (e f:Val -> Val -> Option Bool):List Val -> List Val -> Option Bool
  | [],[]=>some false
  | [],_ :: _=>some true
  | _ :: _,[]=>some false
  | x :: xs,y :: ys =>
    match e x y with
    | some true=>lts e f xs ys
    | some false=>f x y
    | none=>none
noncomputable def Ac0:Val -> Option Int
  | .int i=>some i
  | _=>none
noncomputable def Ah4:Val -> Option (List Val)
  | .tup i=>some i
  | _=>none
noncomputable def Ac4 (p:Int -> Int -> Bool) (a b:Val):Option Bool:=(Ac0 a).bind fun x=>(Ac0 b).map fun y=>p x y
noncomputable def Ja:Nat -> Val -> Val -> Option Bool
  | 0,_,_=>none
  | n+1,a,b =>
    match a with
    | .int x=>(Ac0 b).map fun y=>decide (x < y)
    | .tup xs=>(Ah4 b).bind fun ys=>lts (G9 []) (Ja n) xs ys
    | _=>none
noncomputable def Ao0 (a b:Val):List Val -> Option (Val × Val)
  | []=>some (a,b)
  | _ :: _=>none
noncomputable def Ao1 (a:Val):List Val -> Option (Val × Val)
  | []=>none
  | b :: vs=>Ao0 a b vs
noncomputable def Afn:Val -> Option (Val × Val)
  | .tup vs=>(match vs with
    | []=>none
    | a :: vs=>Ao1 a vs)
  | _=>none
noncomputable def Er (v:Val):Option Key:=(Afn v).bind fun p=>(Ac0 p.1).bind fun a=>(Ac0 p.2).map fun b=>(a,b)
noncomputable def Aa (k:Key):Val:=.tup [.int k.1,.int k.2]
noncomputable def Ec (es:List (Key × Val)) (k:Key):Option Val:=es.lookup k
noncomputable def Gk:List (Key × Val) -> Key -> Val -> List (Key × Val)
  | [],k,v=>[(k,v)]
  | (k',v') :: es,k,v=>if k'=k then (k',v) :: es else (k',v') :: Gk es k v
noncomputable def L4 (H:Hp) (x:Val) (ys:List Val):Option Bool :=
  match A5 H Fi x,I1 (A5 H Fi) ys with
  | some d,some ds=>some (ds.any fun y=>PyData.eqv y d)
  | _,_=>none
noncomputable def small (a:Int):Bool:=decide (-(2 ^ 64) < a) && decide (a < 2 ^ 64)
noncomputable def Ac1 (op:BOp) (a b:Val):M Val :=
  match op,a,b with
  | .add,.int x,.int y=>.ret (.int (x+y))
  | .sub,.int x,.int y=>.ret (.int (x - y))
  | .mul,.int x,.int y=>if (small x || small y)=true then .ret (.int (x * y)) else .bad
  | .fdiv,.int x,.int y=>if y=0 \/ 1073741824 <= y.natAbs then .bad else .ret (.int (Int.fdiv x y))
  | .mod,.int x,.int y=>if y=0 then .bad else .ret (.int (Int.fmod x y))
  | .add,.str x,.str y=>if x.length+y.length <= lid then .ret (.str (x++y)) else .bad
  | _,_,_=>.bad
noncomputable def Yb (_neg:Bool):Option Bool -> Option Bool
  | some b=>some (!b)
  | none=>none
noncomputable def isV (a b:Val):Option Bool :=
  match b with
  | .none=>some (match a with | .none=>true | _=>false)
  | _=>none
noncomputable def inV (a b:Val) (H:Hp):Option Bool :=
  match b with
  | .loc l =>
    match H[l]? with
    | some (.list ys)=>L4 H a ys
    | some (.dict es)=>match Er a with
      | some k=>some (Ec es k).isSome
      | none=>none
    | _=>none
  | _=>none
noncomputable def Dl (op:COp) (a b:Val) (H:Hp):Option Bool :=
  match op with
  | .eq=>G9 H a b
  | .ne=>Yb true (G9 H a b)
  | .lt=>Ja Fi a b
  | .gt=>Ac4 (fun x y=>decide (x > y)) a b
  | .le=>Ac4 (fun x y=>decide (x <= y)) a b
  | .ge=>Ac4 (fun x y=>decide (x ≥ y)) a b
  | .is=>isV a b
  | .isNot=>Yb true (isV a b)
  | .isin=>inV a b H
  | .notin=>Yb true (inV a b H)
noncomputable def Cy (v:Val) (H:Hp):Option (List Val × Option Nat) :=
  match v with
  | .loc l =>
    match H[l]? with
    | some (.list xs)=>some (xs,some l)
    | _=>none
  | .tup xs=>some (xs,none)
  | .rng n=>some ((List.range n.toNat).map (fun (k:Nat)=>.int (k:Int)),none)
  | _=>none
noncomputable def chk (src:Option Nat) (xs:List Val) (H:Hp):Bool :=
  match src with
  | none=>true
  | some l =>
    match H[l]? with
    | some (.list ys)=>Zk ys xs
    | _=>false
noncomputable def Cz (v:Val) (H:Hp):Option (List Val) :=
  match v with
  | .loc l =>
    match H[l]? with
    | some (.list xs)=>some xs
    | _=>none
  | .tup xs=>some xs
  | .script ns=>some (ns.map .int)
  | _=>none
noncomputable def C0 (i:Int) (n:Nat):Option Nat :=
  if 0 <= i then (if i < n then some i.toNat else none) else (if -(n:Int) <= i then some (i+n).toNat else none)
noncomputable def De (a i:Val):M Val:=.look fun H =>
  match a,i with
  | .loc l,i =>
    match H[l]?,i with
    | some (.list xs),.int k=>(C0 k xs.length).bind fun p=>xs[p]?
    | some (.dict es),i=>(Er i).bind (Ec es)
    | _,_=>none
  | .tup xs,.int k=>if 0 <= k then xs[k.toNat]? else none
  | .script ns,.int k=>(C0 k ns.length).bind fun p=>(ns[p]?).map .int
  | _,_=>none
structure Order (xs:List Val) (lt:Val -> Val -> Bool):Prop where
  is:∀ x∈xs,∀ y∈xs,Ja Fi x y=some (lt x y)
  asym:∀ x∈xs,∀ y∈xs,lt x y=true -> lt y x=false
  tr:∀ x∈xs,∀ y∈xs,∀ z∈xs,lt y x=false -> lt z y=false -> lt z x=false
  anti:∀ x∈xs,∀ y∈xs,lt x y=false -> lt y x=false -> x=y
noncomputable def I2 (xs:List Val):Prop:=xs.length < 64 /\ (∀ x∈xs,∃ i r,x=.tup (.int i :: r)) /\ ∃ lt,Order xs lt
noncomputable def Ha (xs ys:List Val):Prop:=ys.Perm xs /\ ys.Pairwise fun a b=>Ja Fi b a=some false
open Classical in
noncomputable def Fp (xs:List Val):Option (List Val):=if h:I2 xs /\ ∃ ys,Ha xs ys then some (choose h.2) else none
theorem Jb {xs:List Val} {lt:Val -> Val -> Bool} (O:Order xs lt):∀ (ys zs:List Val),(∀ y∈ys,y∈xs) -> ys.Perm zs -> (ys.Pairwise fun a b=>Ja Fi b a=some false) -> (zs.Pairwise fun a b=>Ja Fi b a=some false) -> ys=zs
  | [],zs,_,p,_,_=>(List.nil_perm.mp p).symm
  | y :: ys,[],_,p,_,_=>by have:=p.length_eq;simp at this
  | y :: ys,z :: zs,hs,p,sy,sz=>by
    have hy:=List.pairwise_cons.mp sy
    have hz:=List.pairwise_cons.mp sz
    have my:y∈xs:=hs y (.head _)
    have mz:z∈xs:=hs z (p.mem_iff.mpr (.head _))
    have irr:∀ x∈xs,lt x x=false:=fun x hx=>by
      cases q:lt x x with
      | false=>rfl
      | true=>rw [O.asym x hx x hx q] at q;exact nomatch q
    have g:∀ a∈xs,∀ b∈xs,Ja Fi a b=some false -> lt a b=false:=fun a ha b hb h=>by rw [O.is a ha b hb] at h;exact Option.some.inj h
    have e:y=z:=by
      refine O.anti y my z mz ?_ ?_
      · have m2:y∈z :: zs:=p.mem_iff.mp (.head _)
        cases m2 with
        | head=>exact irr _ my
        | tail _ h=>exact g y my z mz (hz.1 y h)
      · have m1:z∈y :: ys:=p.mem_iff.mpr (.head _)
        cases m1 with
        | head=>exact irr _ mz
        | tail _ h=>exact g z mz y my (hy.1 z h)
    subst e
    rw [Jb O ys zs (fun x hx=>hs x (.tail _ hx)) (List.perm_cons y |>.mp p) hy.2 hz.2]
theorem L5 {xs ys:List Val} (h:I2 xs) (s:Ha xs ys):Fp xs=some ys:=by
  have q:I2 xs /\ ∃ ys,Ha xs ys:=⟨h,ys,s⟩
  unfold Fp
  rw [dif_pos q]
  obtain ⟨lt,O⟩:=h.2.2
  have c:=Classical.choose_spec q.2
  rw [Jb O _ ys (fun y hy=>c.1.mem_iff.mp hy) (c.1.trans s.1.symm) c.2 s.2]
set_option tactic.hygienic true in
theorem Nk {xs ys:List Val} (h:Fp xs=some ys):I2 xs /\ Ha xs ys:=by
  unfold Fp at h
  split at h
  · rename_i q
    cases h
    exact ⟨q.1,Classical.choose_spec q.2⟩
  · cases h
noncomputable def Dm (l:Nat) (H:Hp):Option (List Val):=match H[l]? with
  | some (.list xs)=>some xs
  | some (.dict es)=>some (es.map fun p=>Aa p.1)
  | _=>none
noncomputable def bfV (f:BF) (args:List Val):M Val :=
  match f,args with
  | .len,[v]=>.look fun H =>
    match v with
    | v=>(Cz v H).map fun xs=>.int xs.length
  | .range,[.int n]=>if -1073741824 <= n /\ n <= 1073741824 then .ret (.rng n) else .bad
  | .list,[v]=>fun H =>
    match v with
    | .rng n=>if n <= 100000 then M.alloc (.list ((List.range n.toNat).map fun (k:Nat)=>.int (k:Int))) H else .bad
    | .loc _=>match Cz v H with
      | some xs=>M.alloc (.list xs) H
      | none=>.bad
    | _=>.bad
  | .sorted,[.loc l]=>fun H =>
    match (Dm l H).bind Fp with
    | some ys=>M.alloc (.list ys) H
    | none=>.bad
  | .max2,[.int a,.int b]=>.ret (.int (if b > a then b else a))
  | _,_=>.bad
noncomputable def bmV (m:BM) (o:Val) (args:List Val):M Val:=fun H =>
  match o with
  | .str s =>
    match m,args with
    | .rstrip,[]=>if (Txt.rstrip s).length <= lid then .ok (.str (Txt.rstrip s)) H else .bad
    | _,_=>.bad
  | .loc l =>
    match H[l]? with
    | some (.list xs) =>
      match m,args with
      | .append,[v]=>if xs.length < lid then .ok .none (H.set l (.list (xs++[v]))) else .bad
      | .pop,[]=>match xs.getLast? with
        | some v=>.ok v (H.set l (.list xs.dropLast))
        | none=>.bad
      | _,_=>.bad
    | some (.dict es) =>
      match m,args with
      | .get2,[k,d]=>match Er k with
        | some k=>.ok ((Ec es k).getD d) H
        | none=>.bad
      | _,_=>.bad
    | _=>.bad
  | _=>.bad
inductive Kd where
  | none | bool | int | str | tuple | list | dict
noncomputable def Ot (H:Hp):Val -> Option Kd
  | .none=>some .none
  | .bool _=>some .bool
  | .int _=>some .int
  | .str _=>some .str
  | .tup _=>some .tuple
  | .script _=>some .list
  | .loc l =>
    match H[l]? with
    | some (.list _)=>some .list
    | some (.dict _)=>some .dict
    | _=>none
  | _=>none
noncomputable def Yc:Ty -> Kd -> Bool
  | .int,.int=>true
  | .int,.bool=>true
  | .bool,.bool=>true
  | .str,.str=>true
  | .tuple,.tuple=>true
  | .list,.list=>true
  | _,_=>false
noncomputable def A6 (T:Tab) (v:Val) (t:Ty):M Val:=.look fun H =>
  match t with
  | .cls d =>
    match v with
    | .exc c=>if T.isExc c=true then some (.bool (T.sub c d)) else none
    | _=>none
  | t=>(Ot H v).map fun k=>.bool (Yc t k)
noncomputable def Iy (v:Val) (n:Nat):M Val:=.look fun H =>
  match v with
  | .loc l =>
    match H[l]? with
    | some (.inst _ fs)=>fs.lookup n
    | _=>none
  | _=>none
noncomputable def Rh:List (Nat × Val) -> Nat -> Val -> List (Nat × Val)
  | [],n,v=>[(n,v)]
  | (m,u) :: r,n,v=>if m=n then (m,v) :: r else (m,u) :: Rh r n v
theorem L6 {m:Nat} {u:Val} {r:List (Nat × Val)} {n:Nat} {v:Val}:Rh ((m,u) :: r) n v=if m=n then (m,v) :: r else (m,u) :: Rh r n v:=rfl
noncomputable def Bp (o:Val) (n:Nat) (v:Val):M Unit:=fun H =>
  match o with
  | .loc l =>
    match H[l]? with
    | some (.inst c fs)=>.ok () (H.set l (.inst c (Rh fs n v)))
    | _=>.bad
  | _=>.bad
noncomputable def A3 (o i v:Val):M Unit:=fun H =>
  match o with
  | .loc l =>
    match H[l]? with
    | some (.list xs) =>
      match i with
      | .int k=>if 0 <= k /\ k < xs.length then .ok () (H.set l (.list (xs.set k.toNat v))) else .bad
      | _=>.bad
    | some (.dict es) =>
      match Er i with
      | some k=>if es.length < lid then .ok () (H.set l (.dict (Gk es k v))) else .bad
      | none=>.bad
    | _=>.bad
  | _=>.bad
noncomputable def Ou:BM -> String
  | .append=>"list"
  | .pop=>"list"
  | .get2=>"dict"
  | .rstrip=>"str"
noncomputable def Jc (o:Val) (H:Hp):Option String :=
  match o with
  | .str _=>some "str"
  | .loc l =>
    match H[l]? with
    | some (.list _)=>some "list"
    | some (.dict _)=>some "dict"
    | _=>none
  | _=>none
noncomputable def Go (m:BM) (o:Val) (H:Hp):Option Unit:=if Jc o H=some (Ou m) then some () else none
noncomputable def C1:Val -> M Bool
  | .bool b=>.ret b
  | _=>.bad
noncomputable abbrev Env':=List (Option Val)
noncomputable abbrev Funs:=Nat -> List Val -> M Val
noncomputable def E3 (chk:Hp -> Bool) (step:Val -> M (Option Val)):List Val -> M (List Val)
  | []=>fun H=>if chk H=true then .ok [] H else .bad
  | x :: xs=>fun H=>if chk H=true then ((step x).bnd fun r=>(E3 chk step xs).bnd fun ys=>.ret (match r with | some y=>y :: ys | none=>ys)) H else .bad
noncomputable def P6 (T:Tab) (Φ:Funs) (c:Nat) (args:List Val):M Val :=
  match T.meth c 0 with
  | some k=>(M.alloc (.inst c [])).bnd fun o=>(Φ k (o :: args)).bnd fun r=>match r with
    | .none=>.ret o
    | _=>.bad
  | none=>.bad
noncomputable def C2 (T:Tab) (o:Val) (m:Nat):M Nat:=.look fun H =>
  match o with
  | .loc l =>
    match H[l]? with
    | some (.inst c _)=>T.meth c m
    | _=>none
  | _=>none
mutual
noncomputable def Ak (T:Tab) (Φ:Funs):ME -> Env' -> M Val
  | .none,_=>.ret .none
  | .bool b,_=>.ret (.bool b)
  | .int i,_=>.ret (.int i)
  | .str s,_=>.ret (.str s)
  | .glob k,_=>.ofOpt T.globs[k]?
  | .var i,Γ=>.ofOpt (match Γ[i]? with | some (some v)=>some v | _=>none)
  | .bin op a b,Γ=>(Ak T Φ a Γ).bnd fun x=>(Ak T Φ b Γ).bnd fun y=>Ac1 op x y
  | .neg a,Γ=>(Ak T Φ a Γ).bnd fun x=>match x with
    | .int i=>.ret (.int (-i))
    | _=>.bad
  | .not a,Γ=>(Ak T Φ a Γ).bnd fun x=>(C1 x).bnd fun b=>.ret (.bool (!b))
  | .and a b,Γ=>(Ak T Φ a Γ).bnd fun x=>(C1 x).bnd fun t=>match t with
    | true=>Ak T Φ b Γ
    | false=>.ret (.bool false)
  | .or a b,Γ=>(Ak T Φ a Γ).bnd fun x=>(C1 x).bnd fun t=>match t with
    | true=>.ret (.bool true)
    | false=>Ak T Φ b Γ
  | .cmp op a b,Γ=>(Ak T Φ a Γ).bnd fun x=>(Ak T Φ b Γ).bnd fun y=>(M.look (Dl op x y)).bnd fun r=>.ret (.bool r)
  | .cmp2 op1 op2 a b c,Γ=>(Ak T Φ a Γ).bnd fun x=>(Ak T Φ b Γ).bnd fun y=>(M.look (Dl op1 x y)).bnd fun r=>match r with
    | true=>(Ak T Φ c Γ).bnd fun z=>(M.look (Dl op2 y z)).bnd fun r=>.ret (.bool r)
    | false=>.ret (.bool false)
  | .sub a i,Γ=>(Ak T Φ a Γ).bnd fun x=>(Ak T Φ i Γ).bnd fun y=>De x y
  | .tup es,Γ=>(evalEs T Φ es Γ).bnd fun vs=>.ret (.tup vs)
  | .list es,Γ=>(evalEs T Φ es Γ).bnd fun vs=>M.alloc (.list vs)
  | .dict,_=>M.alloc (.dict [])
  | .attr a n,Γ=>(Ak T Φ a Γ).bnd fun x=>Iy x n
  | .call f es,Γ=>(evalEs T Φ es Γ).bnd fun vs=>Φ f vs
  | .new c es,Γ=>match T.meth c 0 with
    | some _=>(evalEs T Φ es Γ).bnd fun vs=>P6 T Φ c vs
    | none=>M.bad
  | .umeth a m es,Γ=>(Ak T Φ a Γ).bnd fun o=>(C2 T o m).bnd fun k=>(evalEs T Φ es Γ).bnd fun vs=>Φ k (o :: vs)
  | .bf f es,Γ=>(evalEs T Φ es Γ).bnd fun vs=>bfV f vs
  | .bm a m es,Γ=>(Ak T Φ a Γ).bnd fun o=>(M.look (Go m o)).bnd fun _=>(evalEs T Φ es Γ).bnd fun vs=>bmV m o vs
  | .isinst a t,Γ=>(Ak T Φ a Γ).bnd fun x=>A6 T x t
  | .comp elt it cond,Γ=>(Ak T Φ it Γ).bnd fun v=>(M.look (Cy v)).bnd fun p =>
      (M.quiet (E3 (chk p.2 p.1) (fun x=>(evalC T Φ cond (Γ++[some x])).bnd fun b=>match b with
        | true=>(Ak T Φ elt (Γ++[some x])).bnd fun y=>.ret (some y)
        | false=>.ret none) p.1)).bnd fun ys=>if ys.length < lid then M.alloc (.list ys) else .bad
noncomputable def Zl (T:Tab) (Φ:Funs):MEo -> Env' -> M Val
  | .none,_=>.ret .none
  | .some e,Γ=>Ak T Φ e Γ
noncomputable def evalC (T:Tab) (Φ:Funs):MEo -> Env' -> M Bool
  | .none,_=>.ret true
  | .some e,Γ=>(Ak T Φ e Γ).bnd C1
noncomputable def evalEs (T:Tab) (Φ:Funs):MEs -> Env' -> M (List Val)
  | .nil,_=>.ret []
  | .cons e es,Γ=>(Ak T Φ e Γ).bnd fun v=>(evalEs T Φ es Γ).bnd fun vs=>.ret (v :: vs)
end
inductive ResS where
  | next (Γ:Env') (H:Hp)
  | ret (v:Val) (H:Hp)
  | exc (c:Nat) (Γ:Env') (H:Hp)
  | bad
noncomputable def Gl {α:Type} (m:M α) (Γ:Env') (f:α -> Hp -> ResS) (H:Hp):ResS :=
  match m H with
  | .ok a H'=>f a H'
  | .exc c H'=>.exc c Γ H'
  | .bad=>.bad
noncomputable def L7 (r:ResS) (f:Env' -> Hp -> ResS):ResS :=
  match r with
  | .next Γ H=>f Γ H
  | .ret v H=>.ret v H
  | .exc c Γ H=>.exc c Γ H
  | .bad=>.bad
noncomputable def E4 (chk:Hp -> Bool) (bind:Val -> Env' -> Option Env') (body:Env' -> Hp -> ResS):List Val -> Env' -> Hp -> ResS
  | [],Γ,H=>if chk H=true then .next Γ H else .bad
  | x :: xs,Γ,H=>if chk H=true then (match bind x Γ with
    | some Γ'=>L7 (body Γ' H) (E4 chk bind body xs)
    | none=>.bad) else .bad
noncomputable def Im (cond:Env' -> M Bool) (body:Env' -> Hp -> ResS):Nat -> Env' -> Hp -> ResS
  | 0,_,_=>.bad
  | n+1,Γ,H =>
    match cond Γ H with
    | .ok true H' =>
      match body Γ H' with
      | .next Γ' H''=>Im cond body n Γ' H''
      | .ret v H''=>.ret v H''
      | _=>.bad
    | .ok false H'=>.next Γ H'
    | _=>.bad
theorem L8 {chk:Hp -> Bool} {bind:Val -> Env' -> Option Env'} {body:Env' -> Hp -> ResS} {Γ:Env'} {H:Hp}:E4 chk bind body [] Γ H=if chk H=true then .next Γ H else .bad:=rfl
theorem Ka {chk:Hp -> Bool} {bind:Val -> Env' -> Option Env'} {body:Env' -> Hp -> ResS} {x:Val} {xs:List Val} {Γ:Env'} {H:Hp}:E4 chk bind body (x :: xs) Γ H=if chk H=true then (match bind x Γ with
    | some Γ'=>L7 (body Γ' H) (E4 chk bind body xs)
    | none=>.bad) else .bad:=rfl
theorem Jd {cond:Env' -> M Bool} {body:Env' -> Hp -> ResS} {n:Nat} {Γ:Env'} {H:Hp}:Im cond body (n+1) Γ H=(match cond Γ H with
    | .ok true H' =>
      match body Γ H' with
      | .next Γ' H''=>Im cond body n Γ' H''
      | .ret v H''=>.ret v H''
      | _=>.bad
    | .ok false H'=>.next Γ H'
    | _=>.bad):=rfl
noncomputable def Nl:Nat:=2 ^ 40
noncomputable def Du:List Val -> List Val -> List Val
  | a :: as,b :: bs=>.tup [a,b] :: Du as bs
  | _,_=>[]
noncomputable def Nm (i:Nat) (v:Val) (Γ:Env'):Option Env':=some (Γ.set i (some v))
noncomputable def Zm (i j:Nat) (v:Val) (Γ:Env'):Option Env':=(Afn v).map fun p=>(Γ.set i (some p.1)).set j (some p.2)
noncomputable def Hb (v:Val) (H:Hp):Option (List Val × Nat) :=
  match v with
  | .loc l =>
    match H[l]? with
    | some (.list xs)=>some (xs,l)
    | _=>none
  | _=>none
noncomputable def L9 (v w:Val) (H:Hp):Option ((List Val × Option Nat) × (List Val × Option Nat)) :=
  match Hb v H,Hb w H with
  | some p,some q=>some ((p.1,some p.2),(q.1,some q.2))
  | _,_=>none
noncomputable def Ma (l:Nat) (H:Hp):Bool :=
  match H[l]? with
  | some .hid=>true
  | _=>false
mutual
noncomputable def Da (T:Tab) (Φ:Funs):MS -> Env' -> Hp -> ResS
  | .expr e,Γ,H=>Gl (Ak T Φ e Γ) Γ (fun _ H=>.next Γ H) H
  | .assign i e,Γ,H=>Gl (Ak T Φ e Γ) Γ (fun v H=>.next (Γ.set i (some v)) H) H
  | .setattr o n e,Γ,H=>Gl (Ak T Φ e Γ) Γ (fun v=>Gl (Ak T Φ o Γ) Γ fun o=>Gl (Bp o n v) Γ fun _ H=>.next Γ H) H
  | .setitem o i e,Γ,H=>Gl (Ak T Φ e Γ) Γ (fun v=>Gl (Ak T Φ o Γ) Γ fun o=>Gl (Ak T Φ i Γ) Γ fun i=>Gl (A3 o i v) Γ fun _ H=>.next Γ H) H
  | .ret e,Γ,H=>Gl (Zl T Φ e Γ) Γ (fun v H=>.ret v H) H
  | .ite c t f,Γ,H=>Gl ((Ak T Φ c Γ).bnd C1) Γ (fun b=>match b with
    | true=>execSs T Φ t Γ
    | false=>execSs T Φ f Γ) H
  | .loop c body,Γ,H=>Im (fun Γ=>(Ak T Φ c Γ).bnd C1) (execSs T Φ body) Nl Γ H
  | .each i it body,Γ,H=>Gl (Ak T Φ it Γ) Γ (fun v=>Gl (M.look (Cy v)) Γ fun p=>E4 (chk p.2 p.1) (Nm i) (execSs T Φ body) p.1 Γ) H
  | .eachZip i j a b body,Γ,H=>Gl (Ak T Φ a Γ) Γ (fun v=>Gl (Ak T Φ b Γ) Γ fun w=>Gl (M.look (L9 v w)) Γ fun p=>fun H =>
      if p.1.1.length=p.2.1.length then E4 (fun H'=>chk p.1.2 p.1.1 H' && chk p.2.2 p.2.1 H' && Ma H.length H') (Zm i j) (execSs T Φ body) (Du p.1.1 p.2.1) Γ (H++[.hid]) else .bad) H
  | .raise c _,Γ,H=>if T.isExc c=true then .exc c Γ H else .bad
  | .tryx body hs,Γ,H =>
    match execSs T Φ body Γ H with
    | .exc c Γ' H'=>execH T Φ hs c Γ' H'
    | r=>r
noncomputable def execSs (T:Tab) (Φ:Funs):MSs -> Env' -> Hp -> ResS
  | .nil,Γ,H=>.next Γ H
  | .cons s ss,Γ,H=>L7 (Da T Φ s Γ H) (execSs T Φ ss)
noncomputable def execH (T:Tab) (Φ:Funs):MHs -> Nat -> Env' -> Hp -> ResS
  | .nil,c,Γ,H=>.exc c Γ H
  | .cons d i body hs,c,Γ,H =>
    if (T.isExc c && T.isExc d && calmSs (Fh T) body)=false then .bad else if T.sub c d=true then
      match execSs T Φ body (match i with | some i=>Γ.set i (some (.exc c)) | none=>Γ) H with
      | .ret v H'=>.ret v H'
      | _=>.bad
    else execH T Φ hs c Γ H
end
noncomputable def Zn:ResS -> Res Val
  | .next _ H'=>.ok .none H'
  | .ret v H'=>.ok v H'
  | .exc c _ H'=>.exc c H'
  | .bad=>.bad
noncomputable def Ae2 (T:Tab) (Φ:Funs) (f:MFun) (args:List Val):M Val:=fun H =>
  if args.length=f.arity then Zn (execSs T Φ f.body (args.map some++List.replicate f.nvars none) H) else .bad
noncomputable def Ai (T:Tab):Nat -> Funs
  | 0,_,_=>.bad
  | d+1,k,args =>
    match T.funs[k]? with
    | none=>.bad
    | some f=>Ae2 T (Ai T d) f args
theorem P7 {T:Tab} {d k:Nat} {args:List Val}:Ai T (d+1) k args=(match T.funs[k]? with
    | none=>.bad
    | some f=>Ae2 T (Ai T d) f args):=rfl
theorem Zo {T:Tab} {Φ:Funs} {Γ:Env'} (k):Ak T Φ (.glob k) Γ=(.ofOpt T.globs[k]?):=rfl
theorem Ac5 {T:Tab} {Φ:Funs} {Γ:Env'} (i):Ak T Φ (.var i) Γ=(.ofOpt (match Γ[i]? with | some (some v)=>some v | _=>none)):=rfl
theorem Ac6 {T:Tab} {Φ:Funs} {Γ:Env'} (a):Ak T Φ (.not a) Γ=((Ak T Φ a Γ).bnd fun x=>(C1 x).bnd fun b=>.ret (.bool (!b))):=rfl
theorem Ac7 {T:Tab} {Φ:Funs} {Γ:Env'} (a b):Ak T Φ (.and a b) Γ=((Ak T Φ a Γ).bnd fun x=>(C1 x).bnd fun t=>match t with
    | true=>Ak T Φ b Γ
    | false=>.ret (.bool false)):=rfl
theorem Afo {T:Tab} {Φ:Funs} {Γ:Env'} (a b):Ak T Φ (.or a b) Γ=((Ak T Φ a Γ).bnd fun x=>(C1 x).bnd fun t=>match t with
    | true=>.ret (.bool true)
    | false=>Ak T Φ b Γ):=rfl
theorem Ac8 {T:Tab} {Φ:Funs} {Γ:Env'} (op a b):Ak T Φ (.cmp op a b) Γ=((Ak T Φ a Γ).bnd fun x=>(Ak T Φ b Γ).bnd fun y=>(M.look (Dl op x y)).bnd fun r=>.ret (.bool r)):=rfl
theorem Rk {T:Tab} {Φ:Funs} {Γ:Env'} (op1 op2 a b c):Ak T Φ (.cmp2 op1 op2 a b c) Γ=((Ak T Φ a Γ).bnd fun x=>(Ak T Φ b Γ).bnd fun y=>(M.look (Dl op1 x y)).bnd fun r=>match r with
    | true=>(Ak T Φ c Γ).bnd fun z=>(M.look (Dl op2 y z)).bnd fun r=>.ret (.bool r)
    | false=>.ret (.bool false)):=rfl
theorem Je {T:Tab} {Φ:Funs} {Γ:Env'} (f es):Ak T Φ (.call f es) Γ=((evalEs T Φ es Γ).bnd fun vs=>Φ f vs):=rfl
theorem Mb {T:Tab} {Φ:Funs} {Γ:Env'} (c es):Ak T Φ (.new c es) Γ=(match T.meth c 0 with
    | some _=>(evalEs T Φ es Γ).bnd fun vs=>P6 T Φ c vs
    | none=>M.bad):=rfl
theorem Hc {T:Tab} {Φ:Funs} {Γ:Env'} (a m es):Ak T Φ (.umeth a m es) Γ=((Ak T Φ a Γ).bnd fun o=>(C2 T o m).bnd fun k=>(evalEs T Φ es Γ).bnd fun vs=>Φ k (o :: vs)):=rfl
theorem Rl {T:Tab} {Φ:Funs} {Γ:Env'} (f es):Ak T Φ (.bf f es) Γ=((evalEs T Φ es Γ).bnd fun vs=>bfV f vs):=rfl
theorem Rm {T:Tab} {Φ:Funs} {Γ:Env'} (a m es):Ak T Φ (.bm a m es) Γ=((Ak T Φ a Γ).bnd fun o=>(M.look (Go m o)).bnd fun _=>(evalEs T Φ es Γ).bnd fun vs=>bmV m o vs):=rfl
theorem Fq {T:Tab} {Φ:Funs} {Γ:Env'} (a t):Ak T Φ (.isinst a t) Γ=((Ak T Φ a Γ).bnd fun x=>A6 T x t):=rfl
theorem Rn {T:Tab} {Φ:Funs} {Γ:Env'} {H:Hp} (i e):Da T Φ (.assign i e) Γ H=(Gl (Ak T Φ e Γ) Γ (fun v H=>.next (Γ.set i (some v)) H) H):=rfl
theorem Zp {T:Tab} {Φ:Funs} {Γ:Env'} {H:Hp} (c body):Da T Φ (.loop c body) Γ H=(Im (fun Γ=>(Ak T Φ c Γ).bnd C1) (execSs T Φ body) Nl Γ H):=rfl
theorem Vn {T:Tab} {Φ:Funs} {Γ:Env'} {H:Hp} (c m):Da T Φ (.raise c m) Γ H=(if T.isExc c=true then .exc c Γ H else .bad):=rfl
theorem Vo {T:Tab} {Φ:Funs} {Γ:Env'} (e es):evalEs T Φ (.cons e es) Γ=((Ak T Φ e Γ).bnd fun v=>(evalEs T Φ es Γ).bnd fun vs=>.ret (v :: vs)):=rfl
end
end Mine.Internal
namespace Mine.Internal
open PySem
theorem Jf {v:Val} {i:Int} (h:Ac0 v=some i):v=.int i:=by
  cases v with
  | int j=>exact congrArg _ (Option.some.inj h)
  | _=>exact Ae h
theorem Ro {v:Val} {p:Val × Val} (h:Afn v=some p):v=.tup [p.1,p.2]:=by
  cases v with
  | tup vs =>
    cases vs with
    | nil=>exact Ae h
    | cons x vs =>
      cases vs with
      | nil=>exact Ae h
      | cons y vs =>
        cases vs with
        | nil=>exact Option.some.inj h▸rfl
        | cons _ _=>exact Ae h
  | _=>exact Ae h
theorem Zq {v:Val} {i:List Val} (h:Ah4 v=some i):v=.tup i:=by
  cases v with
  | tup j=>exact congrArg _ (Option.some.inj h)
  | _=>exact Ae h
theorem Yd {a:Val} {k:Key} (h:Er a=some k):a=.tup [.int k.1,.int k.2]:=by
  refine ex1 (Option.bind_eq_some_iff.mp h) fun p zz=>Ac zz fun e h=>?_
  refine ex1 (Option.bind_eq_some_iff.mp h) fun x zz=>Ac zz fun e1 h=>?_
  refine ex1 (Option.map_eq_some_iff.mp h) fun y zz=>Ac zz fun e2 h=>?_
  have q:Val.tup [p.1,p.2]=.tup [.int x,.int y]:=Jf e1▸Jf e2▸rfl
  exact h▸(Ro e).trans q
theorem Rp {f:Val -> Option PyData} {x:Val} {xs:List Val} {ds:List PyData} {C:List PyData -> Prop} (h:I1 f (x :: xs)=some ds) (k:∀ d ds',f x=some d -> I1 f xs=some ds' -> C (d :: ds')):C ds:=by
  have h:(match f x,I1 f xs with
    | some d,some ds=>some (d :: ds)
    | _,_=>none)=some ds:=h
  cases e1:f x with
  | none=>rw [e1] at h;exact Ae h
  | some d =>
    cases e2:I1 f xs with
    | none=>rw [e1,e2] at h;exact Ae h
    | some ds'=>rw [e1,e2] at h;exact Option.some.inj h▸k d ds' e1 e2
theorem Vp {H:Hp} {a b:Val} {r:Bool} {C:Bool -> Prop} (h:G9 H a b=some r) (k:∀ x y,A5 H Fi a=some x -> A5 H Fi b=some y -> C (PyData.eqv x y)):C r:=by
  delta G9 at h
  cases e1:A5 H Fi a with
  | none=>rw [e1] at h;exact Ae h
  | some d =>
    cases e2:A5 H Fi b with
    | none=>rw [e1,e2] at h;exact Ae h
    | some ds'=>rw [e1,e2] at h;exact Option.some.inj h▸k d ds' e1 e2
theorem Ac9 {H:Hp} {x:Val} {ys:List Val} {r:Bool} {C:Bool -> Prop} (h:L4 H x ys=some r) (k:∀ d ds,A5 H Fi x=some d -> I1 (A5 H Fi) ys=some ds -> C (ds.any fun y=>PyData.eqv y d)):C r:=by
  delta L4 at h
  cases e1:A5 H Fi x with
  | none=>rw [e1] at h;exact Ae h
  | some d =>
    cases e2:I1 (A5 H Fi) ys with
    | none=>rw [e1,e2] at h;exact Ae h
    | some ds'=>rw [e1,e2] at h;exact Option.some.inj h▸k d ds' e1 e2
theorem Ov {e f:Val -> Val -> Option Bool} {x y:Val} {xs ys:List Val} {r:Bool} (h:lts e f (x :: xs) (y :: ys)=some r):(e x y=some true /\ lts e f xs ys=some r) \/ (e x y=some false /\ f x y=some r):=by
  have h:(match e x y with
    | some true=>lts e f xs ys
    | some false=>f x y
    | none=>none)=some r:=h
  cases q:e x y with
  | none=>rw [q] at h;exact Ae h
  | some b =>
    rw [q] at h
    cases b with
    | true=>exact .inl ⟨rfl,h⟩
    | false=>exact .inr ⟨rfl,h⟩
theorem Afp {n:Nat} {a b:Val} {r:Bool} {C:Val -> Val -> Bool -> Prop} (h:Ja (n+1) a b=some r) (k1:∀ x y,C (.int x) (.int y) (decide (x < y))) (k2:∀ xs ys,lts (G9 []) (Ja n) xs ys=some r -> C (.tup xs) (.tup ys) r):C a b r:=by
  cases a with
  | int x =>
    refine ex1 (Option.map_eq_some_iff.mp h) fun y zz=>Ac zz fun e h=>?_
    exact Jf e▸h▸k1 x y
  | tup xs =>
    refine ex1 (Option.bind_eq_some_iff.mp h) fun ys zz=>Ac zz fun e h=>?_
    exact Zq e▸k2 xs ys h
  | _=>exact Ae h
theorem Afq {H:Hp} {a:Val} {l:Nat} {r:Bool} {C:Bool -> Prop} (h:inV a (.loc l) H=some r) (k1:∀ ys,H[l]?=some (.list ys) -> L4 H a ys=some r -> C r) (k2:∀ es k,H[l]?=some (.dict es) -> Er a=some k -> C (Ec es k).isSome):C r:=by
  delta inV at h
  dsimp only at h
  cases q:H[l]? with
  | none=>rw [q] at h;exact Ae h
  | some o =>
    rw [q] at h
    cases o with
    | list ys=>exact k1 ys q h
    | dict es =>
      dsimp only at h
      cases q2:Er a with
      | none=>rw [q2] at h;exact Ae h
      | some k=>rw [q2] at h;exact Option.some.inj h▸k2 es k q q2
    | _=>exact Ae h
theorem Ada {a b:Val} {p:Int -> Int -> Bool} {r:Bool} {C:Val -> Val -> Bool -> Prop} (e:Ac4 p a b=some r) (k:∀ x y,C (.int x) (.int y) (p x y)):C a b r:=by
  refine ex1 (Option.bind_eq_some_iff.mp e) fun x zz=>Ac zz fun e1 e=>?_
  refine ex1 (Option.map_eq_some_iff.mp e) fun y zz=>Ac zz fun e2 e=>?_
  exact Jf e1▸Jf e2▸e▸k x y
theorem Jg {o:Option Bool} {r:Bool} (h:Yb true o=some r):∃ r',o=some r' /\ r=!r':=by
  cases o with
  | none=>exact Ae h
  | some b=>exact ⟨b,rfl,(Option.some.inj h).symm⟩
theorem Mc {H:Hp} {l:Nat} {xs:List Val} (h:Cz (.loc l) H=some xs):H[l]?=some (.list xs):=by
  delta Cz at h
  dsimp only at h
  cases q:H[l]? with
  | none=>rw [q] at h;exact Ae h
  | some o =>
    rw [q] at h
    cases o with
    | list ys=>cases h;rfl
    | _=>exact Ae h
theorem Vq {H:Hp} {l:Nat} {xs:List Val} {src:Option Nat} (h:Cy (.loc l) H=some (xs,src)):H[l]?=some (.list xs) /\ src=some l:=by
  delta Cy at h
  dsimp only at h
  cases q:H[l]? with
  | none=>rw [q] at h;exact Ae h
  | some o =>
    rw [q] at h
    cases o with
    | list ys =>
      have h:=Option.some.inj h
      exact ⟨congrArg (fun p=>some (HObj.list p.1)) h,(congrArg Prod.snd h).symm⟩
    | _=>exact Ae h
theorem Adb {l:Nat} {H:Hp} {xs:List Val} {C:List Val -> Prop} (h:Dm l H=some xs) (k1:∀ ys,H[l]?=some (.list ys) -> C ys) (k2:∀ es,H[l]?=some (.dict es) -> C (es.map fun p=>Aa p.1)):C xs:=by
  delta Dm at h
  cases q:H[l]? with
  | none=>rw [q] at h;exact Ae h
  | some o =>
    rw [q] at h
    cases o with
    | list ys=>exact Option.some.inj h▸k1 ys q
    | dict es=>exact Option.some.inj h▸k2 es q
    | _=>exact Ae h
theorem Rq {l:Nat} {xs:List Val} {H:Hp} (h:chk (some l) xs H=true):H[l]?=some (.list xs):=by
  delta chk at h
  dsimp only at h
  cases q:H[l]? with
  | none=>rw [q] at h;exact Am h
  | some o =>
    rw [q] at h
    cases o with
    | list ys=>exact congrArg (fun x=>some (HObj.list x)) (Vm _ _ h)
    | _=>exact Am h
theorem Adc {H:Hp} {l:Nat} {xs:List Val} (h:H[l]?=some (.list xs)):chk (some l) xs H=true:=by
  delta chk;dsimp only;rw [h];exact P5 xs
theorem Afr {H:Hp} {l:Nat} {k:Kd} {C:Kd -> Prop} (h:Ot H (.loc l)=some k) (k1:∀ xs,H[l]?=some (.list xs) -> C .list) (k2:∀ xs,H[l]?=some (.dict xs) -> C .dict):C k:=by
  delta Ot at h
  dsimp only at h
  cases q:H[l]? with
  | none=>rw [q] at h;exact Ae h
  | some o =>
    rw [q] at h
    cases o with
    | list ys=>exact Option.some.inj h▸k1 ys q
    | dict ys=>exact Option.some.inj h▸k2 ys q
    | _=>exact Ae h
theorem Ade {H:Hp} {l:Nat} {xs:List Val} (h:H[l]?=some (.list xs)):Ot H (.loc l)=some .list:=by
  delta Ot;dsimp only;rw [h]
theorem Rr {H:Hp} {l:Nat} {xs:List Val} (h:H[l]?=some (.list xs)):Hb (.loc l) H=some (xs,l):=by
  delta Hb;dsimp only;rw [h]
theorem Md {H:Hp} {l:Nat} {xs:List Val} (h:H[l]?=some (.list xs)):Jc (.loc l) H=some "list":=by
  delta Jc;dsimp only;rw [h]
theorem Rs {H:Hp} {l:Nat} {xs:List (Key × Val)} (h:H[l]?=some (.dict xs)):Jc (.loc l) H=some "dict":=by
  delta Jc;dsimp only;rw [h]
theorem Zr {H:Hp} {l:Nat} {k:String} {C:String -> Prop} (h:Jc (.loc l) H=some k) (k1:∀ xs,H[l]?=some (.list xs) -> C "list") (k2:∀ xs,H[l]?=some (.dict xs) -> C "dict"):C k:=by
  delta Jc at h
  dsimp only at h
  cases q:H[l]? with
  | none=>rw [q] at h;exact Ae h
  | some o =>
    rw [q] at h
    cases o with
    | list ys=>exact Option.some.inj h▸k1 ys q
    | dict ys=>exact Option.some.inj h▸k2 ys q
    | _=>exact Ae h
theorem Vr {H:Hp} {l:Nat} {xs:List Val} (h:H[l]?=some (.list xs)):Cz (.loc l) H=some xs:=by
  delta Cz;dsimp only;rw [h]
theorem Zs {H:Hp} {l:Nat} {xs:List Val} (h:H[l]?=some (.list xs)):Cy (.loc l) H=some (xs,some l):=by
  delta Cy;dsimp only;rw [h]
end Mine.Internal
set_option maxRecDepth 100000
namespace Mine.Internal
open PySem PySem.W PySem.Spec PySem.Calls PyProof.Rows
structure ExcK (K:Frag) (D:Addr):Prop where
  ga:findIn K (.ref D) "__getattribute__"=some (some (.builtin "BaseException.__getattribute__"))
  gt:findIn K (.ref D) "__getattr__"=some none
  mb:mroIn K D (.type "BaseException")=some true
  hd:hasDictIn K D=true
  fc:findIn K (.ref D) "__class__"=some (some (.builtin "object.__class__"))
  sg:specialIn K (.builtin "object.__class__") "__get__"=some (some (.builtin "getset_descriptor.__get__"))
  tk:takesIn K (.builtin "object.__class__")=some true
  mo:mroIn K D (.type "object")=some true
section
variable {prog:Program} {w:World} {A:Around} {E:Value -> Shared -> Prop} {s:Shared} {K:Frag} {x D:Addr} {ox:Obj}
theorem Ye:Slot "ValueError" "__getattribute__" "BaseException.__getattribute__":=F.excAttr_ValueError.ga
theorem exc_check {M:Model} {nameV:Value} {Q:Unit -> Shared -> Prop} (k:ExcK K D) (X:K.In s.heap) (I:InstAt s.heap x ox D none) (h:Q () s) :
    wpAny M A (checkBuiltinCall "BaseException.__getattribute__" ⟨[.ref x,nameV],[]⟩) Q E s:=by
  obtain ⟨hh,g,d,t,os⟩:=s
  have hk:builtinKind "BaseException.__getattribute__"=some .slot:=by decide +kernel
  have hsplit:splitId "BaseException.__getattribute__"=some ("BaseException","__getattribute__"):=by decide +kernel
  have ha:=F.args_bexc_ga (.ref x) nameV
  have LI:Looks M hh (isInstance (.ref x) (.type "BaseException")) true:=(I.type (M:=M)).andThen (looks_mroIn (M:=M) X k.mb)
  simp only [checkBuiltinCall,hk,hsplit]
  refine zB (LI.at ?_)
  repeat (first | exact h | wp_step)
theorem Rt {tk:Tok} {Q:Fin -> Shared -> Prop} (k:ExcK K D) (X:K.In s.heap) (I:InstAt s.heap x ox D none) (h:Q (.done (.ret (.ref D))) s) :
    wpAny (model prog w) A (Builtin.«object.__getattribute__» ⟨[.ref x,.str "__class__" tk],[]⟩) Q E s:=by
  have hc:(clsIn K D).isSome=true:=by refine ex1 (any_some k.hd) fun cd zz=>Ac zz fun hc _=>?_;rw [hc];rfl
  have hf:findObj K D none "__class__"=some (.bind (.builtin "getset_descriptor.__get__") (.builtin "object.__class__")):=by
    obtain ⟨cd,hc⟩:=Option.isSome_iff_exists.mp hc
    delta findObj
    rw [hc,Option.bind_some,k.fc,Option.bind_some]
    show (specialIn K _ _).bind _=_
    rw [k.sg,Option.bind_some]
    show (takesIn K _).bind _=_
    rw [k.tk]
    rfl
  have L0:=I.type (M:=model prog w)
  have L1:=looks_find (M:=model prog w) X I hf
  unfold Builtin.«object.__getattribute__»
  refine zB (zH (zB (zH (zB (L0.at (zB (L1.at ?_)))))))
  exact zB (wpAny_holding (wpAny_call (class_get (ox:=ox) (od:=none) X I k.mo (zH h))))
theorem P8 {Q:Option Value -> Shared -> Prop} (k:ExcK K D) (X:K.In s.heap) (I:InstAt s.heap x ox D none) (h:Q (some (.ref D)) { s with toks:=s.toks+1 }):wpAny (model prog w) A (getAttr? (.ref x) "__class__") Q E s:=by
  obtain ⟨hh,g,d,t,os⟩:=s
  have L0:=I.type (M:=model prog w)
  have L1:=looks_findIn (M:=model prog w) X k.ga
  have L2:=looks_findIn (M:=model prog w) X k.gt
  unfold getAttr? getAttrBy? getAttrBy
  refine zB (wpAny_mkText (zB (wpAny_attempt (wpAny_holding (zB (L0.at (zB (L1.at ?_))))))))
  unfold getAttrByItsOwn
  refine zB ?_
  refine L2.at ?_
  refine zB (wpAny_attempt (wpAny_holding ?_))
  show wpAny _ _ (boundAndCalled _ _ _) _ _ _
  unfold boundAndCalled
  refine zB (wpAny_of_eq (Ye.bind (.ref x)) ?_)
  refine wpAny_call (codeAny_call_builtin Ye.plain F.entry_bexc_ga (exc_check k X I (Rt k X I ?_)))
  exact handed_on rfl (zH h)
theorem Kb {D:Addr} {M:Model} {h:Heap} (hc:(clsIn K D).isSome=true) (X:K.In h):Looks M h (isType (.ref D)) true:=by
  delta clsIn at hc
  cases ho:K.lookup D with
  | none=>rw [ho] at hc;exact nomatch hc
  | some o =>
    rw [ho] at hc
    obtain ⟨c,d,data,sl⟩:=o
    cases data with
    | cls cd =>
      intro A' Q' E' s' k q
      unfold isType loadHead
      exact zB (wpAny_loadPart (k _ _ (X _ _ ho)) (zH q))
    | _=>exact nomatch hc
theorem No {c:Value} {dep:Int} {tk:Tok} {b:Bool} {Q:Fin -> Shared -> Prop} (k:ExcK K D) (X:K.In s.heap) (I:InstAt s.heap x ox D none) (hty:Looks (model prog w) s.heap (typeOf c) (.type "type")) (his:Looks (model prog w) s.heap (isType c) true)
    (hself:(Value.ref D == c)=true -> b=true) (hsub:Looks (model prog w) s.heap (isSubtype (.ref D) c) b) (h:∀ tk,Q (.done (.ret (.bool b))) { s with toks:=tk }) :
    wpAny (model prog w) A (Builtin.«isinstance.nested» ⟨[.ref x,c,.int dep tk],[]⟩) Q E s:=by
  have hisD:Looks (model prog w) s.heap (isType (.ref D)) true:=Kb (by refine ex1 (any_some k.hd) fun cd zz=>Ac zz fun hc _=>?_;rw [hc];rfl) X
  obtain ⟨h0,g,d,tt,os⟩:=s
  have L0:=I.type (M:=model prog w)
  have LI:Looks (model prog w) h0 (isInstance (.ref x) c) b:=L0.andThen hsub
  unfold Builtin.«isinstance.nested»
  refine zB (L0.at ?_)
  by_cases q:(Value.ref D == c)=true
  · rw [if_pos q]
    have hb:=hself q
    subst hb
    exact zB (wpAny_rule (zB (zH (zH (h tt)))))
  rw [if_neg q]
  refine zB (hty.at ?_)
  k_delta "plainIsInstance"
  refine zB (zB (his.at ?_))
  simp only [Bool.not_true,Bool.false_eq_true,if_false]
  refine zB (LI.at ?_)
  cases b with
  | true =>
    simp only [if_true]
    first
      | exact zH (h tt)
      | exact zH (zH (h tt))
      | exact zB (zH (zH (h tt)))
  | false =>
    simp only [Bool.false_eq_true,if_false]
    refine zB (P8 k X I ?_)
    refine zB (hisD.at ?_)
    simp only [Bool.not_true,Bool.false_eq_true,if_false]
    refine zB (wpAny_rule ?_)
    refine hsub.at ?_
    first
      | exact zH (h _)
      | exact zH (zH (h _))
      | exact zB (zH (zH (h _)))
theorem Ru {c:Value} {b:Bool} {Q:Value -> Shared -> Prop} (k:ExcK K D) (X:K.In s.heap) (I:InstAt s.heap x ox D none) (hty:∀ (M:Model) h',K.In h' -> Looks M h' (typeOf c) (.type "type")) (his:∀ (M:Model) h',K.In h' -> Looks M h' (isType c) true)
    (hself:(Value.ref D == c)=true -> b=true) (hsub:∀ (M:Model) h',K.In h' -> Looks M h' (isSubtype (.ref D) c) b) (h:∀ tk,Q (.bool b) { s with toks:=tk }):wpAny (model prog w) A (call (.builtin "isinstance") [.ref x,c]) Q E s :=
  call_isinstance (S:=fun _ R s=>(K.In s.heap /\ InstAt s.heap x ox D none) /\ ∀ tk,R (.ok (.ret (.bool b))) { s with toks:=tk })
    (fun _ _ _ _ _ hs=>isinstance_outer (No k hs.1.1 hs.1.2 (hty _ _ hs.1.1) (his _ _ hs.1.1) hself (hsub _ _ hs.1.1) hs.2) (by intro q;cases q)) ⟨⟨X,I⟩,h⟩
end
noncomputable def Ow (K:Frag) (v:Value):Bool:=match v with
  | .ref a=>(clsIn K a).isSome && typeIn K (.ref a) == some (.type "type")
  | .type T=>decide (T="ValueError")
  | _=>false
theorem Me {K:Frag} {v:Value} (h:Ow K v=true) {M:Model} {g:Heap} (X:K.In g):Looks M g (typeOf v) (.type "type") /\ Looks M g (isType v) true:=by
  cases v with
  | ref a =>
    have h:=(Bool.and_eq_true _ _).mp h
    exact ⟨looks_typeIn X (beq_iff_eq.mp h.2),Kb h.1 X⟩
  | type T =>
    have h:T="ValueError":=of_decide_eq_true h
    subst h
    exact ⟨Looks.of_pure (by kernel_rfl),Looks.of_pure rfl⟩
  | _=>cases h
end Mine.Internal
namespace Mine.Internal
open PySem
noncomputable abbrev Rho:=List (Addr × Addr)
noncomputable def Av (ρ:Rho) (a:Addr):Prop:=∃ p∈ρ,a=p.1 \/ a=p.2
noncomputable def Jh (ρ:Rho) (h:Heap) (ρ':Rho):Prop:=∃ e,ρ'=ρ++e /\ ∀ p∈e,h.get? p.1=none /\ h.get? p.2=none
noncomputable def E1 (h h':Heap):Prop:=∀ b o,h.get? b=some o -> ∃ o',h'.get? b=some o'
theorem E1.refl (h:Heap):E1 h h:=fun _ o e=>⟨o,e⟩
theorem E1.trans {h h' h'':Heap} (x:E1 h h') (y:E1 h' h''):E1 h h'':=fun b o e=>let ⟨o',e'⟩:=x b o e;y b o' e'
theorem E1.none {h h':Heap} (x:E1 h h') {a:Addr} (e:h'.get? a=none):h.get? a=none:=by
  cases q:h.get? a with
  | none=>rfl
  | some o=>obtain ⟨o',e'⟩:=x a o q;rw [e] at e';exact Ae e'
theorem Ao (h:Heap):h.get? h.objs.size=none:=by
  cases q:h.get? h.objs.size with
  | none=>rfl
  | some o=>exact absurd (Heap.lt_size q) (Nat.lt_irrefl _)
theorem Ge {h:Heap} {a:Addr} (z:h.objs.size <= a):h.get? a=none:=by
  cases q:h.get? a with
  | none=>rfl
  | some o=>exact absurd (Heap.lt_size q) (Nat.not_lt.mpr z)
noncomputable def D5 (o o':Obj):Prop:=o'=o \/ ((∃ es n,o.data=.dict es n) /\ o'={ o with slots:=o'.slots })
theorem D5.refl (o:Obj):D5 o o:=.inl rfl
theorem D5.trans {o o' o'':Obj} (x:D5 o o') (y:D5 o' o''):D5 o o'':=by
  rcases x with rfl | ⟨c,e⟩
  · exact y
  · rcases y with rfl | ⟨_,e'⟩
    · exact .inr ⟨c,e⟩
    · exact .inr ⟨c,by rw [e',e]⟩
theorem D5.exact {o o':Obj} (x:D5 o o') (n:∀ es n,o.data≠.dict es n):o'=o:=x.elim id fun ⟨⟨es,k,e⟩,_⟩=>absurd e (n es k)
theorem D5.data {o o':Obj} (x:D5 o o'):o'.data=o.data:=by rcases x with rfl | ⟨_,e⟩;rfl;rw [e]
noncomputable def Afs (ρ:Rho) (h h':Heap):Prop:=∀ b o,h.get? b=some o -> ¬ Av ρ b -> ∃ o',h'.get? b=some o' /\ D5 o o'
theorem Afs.exact {ρ:Rho} {h h':Heap} (k:Afs ρ h h') {b:Addr} {o:Obj} (e:h.get? b=some o) (n:¬ Av ρ b) (c:∀ es n,o.data≠.dict es n):h'.get? b=some o:=by
  refine ex1 (k b o e n) fun o' zz=>Ac zz fun e' u=>?_
  rw [e',u.exact c]
noncomputable def Fk (o:Obj):Prop:=(o.cls=.type "tuple" /\ ∃ xs n,o.data=.seq xs n) \/ (o.cls=.type "range" /\ ∃ vs,o.data=.fields vs)
noncomputable def C7 (o:Obj) (C:Addr):Prop:=o.cls=.ref C /\ (∃ vs,o.data=.fields vs) /\ o.dict=none
theorem Fk.notDict {o:Obj} (f:Fk o) (es:Array DictEntry) (n:Nat):o.data≠.dict es n:=by
  rcases f with ⟨_,xs,k,e⟩ | ⟨_,vs,e⟩ <;> rw [e] <;> exact fun q=>nomatch q
theorem C7.notDict {o:Obj} {C:Addr} (f:C7 o C) (es:Array DictEntry) (n:Nat):o.data≠.dict es n:=by
  refine An f fun _ zn1 _=>?_;obtain ⟨vs,e⟩:=zn1
  rw [e];exact fun q=>nomatch q
theorem Jh.refl (ρ:Rho) (h:Heap):Jh ρ h ρ:=⟨[],by simp,by simp⟩
theorem Jh.owned {ρ ρ':Rho} {h:Heap} (g:Jh ρ h ρ') {a:Addr} (o:Av ρ' a):Av ρ a \/ h.get? a=none:=by
  refine ex1 g fun e zz=>Ac zz fun zr1 he=>?_;subst zr1
  refine ex1 o fun p zz=>Ac zz fun hp hpa=>?_
  rcases List.mem_append.mp hp with hp | hp
  · exact .inl ⟨p,hp,hpa⟩
  · right
    rcases hpa with rfl | rfl
    · exact (he p hp).1
    · exact (he p hp).2
theorem Jh.sub {ρ ρ':Rho} {h:Heap} (g:Jh ρ h ρ') {a:Addr} (o:Av ρ a):Av ρ' a:=by
  refine ex1 g fun e zz=>Ac zz fun zr1 he=>?_;subst zr1
  refine ex1 o fun p zz=>Ac zz fun hp hpa=>?_
  exact ⟨p,List.mem_append.mpr (.inl hp),hpa⟩
theorem Jh.get {ρ ρ':Rho} {h:Heap} (g:Jh ρ h ρ') {l:Nat} {p:Addr × Addr} (e:ρ[l]?=some p):ρ'[l]?=some p:=by
  refine ex1 g fun e' zz=>Ac zz fun zr1 he=>?_;subst zr1
  obtain ⟨hl,_⟩:=List.getElem?_eq_some_iff.mp e
  rw [List.getElem?_append_left hl,e]
theorem Jh.not {ρ ρ':Rho} {h:Heap} (g:Jh ρ h ρ') {a:Addr} {o:Obj} (n:¬ Av ρ a) (e:h.get? a=some o):¬ Av ρ' a:=fun w=>by
  rcases g.owned w with w | w
  · exact n w
  · rw [e] at w;cases w
theorem Jh.trans {ρ ρ' ρ'':Rho} {h h':Heap} (x:Jh ρ h ρ') (y:Jh ρ' h' ρ'') (z:E1 h h'):Jh ρ h ρ'':=by
  refine ex1 x fun e1 zz=>Ac zz fun zr1 h1=>?_;subst zr1
  refine ex1 y fun e2 zz=>Ac zz fun zr1 h2=>?_;subst zr1
  refine ⟨e1++e2,by rw [List.append_assoc],fun p hp=>?_⟩
  rcases List.mem_append.mp hp with hp | hp
  · exact h1 p hp
  · exact ⟨z.none (h2 p hp).1,z.none (h2 p hp).2⟩
structure Step (ρ:Rho) (h:Heap) (ρ':Rho) (h':Heap):Prop where
  more:∃ e,ρ'=ρ++e
  keepT:∀ b o,h.get? b=some o -> Fk o -> ¬ Av ρ b -> h'.get? b=some o /\ ¬ Av ρ' b
  keepC:∀ b o C,h.get? b=some o -> C7 o C -> ¬ Av ρ b -> ∃ o',h'.get? b=some o' /\ C7 o' C /\ ¬ Av ρ' b
theorem Step.get {ρ ρ':Rho} {h h':Heap} (st:Step ρ h ρ' h') {l:Nat} {p:Addr × Addr} (e:ρ[l]?=some p):ρ'[l]?=some p:=by
  obtain ⟨e',rfl⟩:=st.more
  obtain ⟨hl,_⟩:=List.getElem?_eq_some_iff.mp e
  rw [List.getElem?_append_left hl,e]
structure Full (ρ:Rho) (h:Heap) (ρ':Rho) (h':Heap):Prop where
  grow:Jh ρ h ρ'
  keep:Afs ρ h h'
  live:E1 h h'
theorem Full.step {ρ ρ':Rho} {h h':Heap} (x:Full ρ h ρ' h'):Step ρ h ρ' h' :=
  ⟨let ⟨e,h1,_⟩:=x.grow;⟨e,h1⟩,fun b o e f n=>⟨x.keep.exact e n f.notDict,x.grow.not n e⟩,fun b o C e c n=>⟨o,x.keep.exact e n c.notDict,c,x.grow.not n e⟩⟩
theorem Full.refl (ρ:Rho) (h:Heap):Full ρ h ρ h:=⟨Jh.refl ρ h,fun _ o e _=>⟨o,e,.refl o⟩,.refl h⟩
theorem Step.refl (ρ:Rho) (h:Heap):Step ρ h ρ h:=(Full.refl ρ h).step
theorem Full.trans {ρ ρ' ρ'':Rho} {h h' h'':Heap} (x:Full ρ h ρ' h') (y:Full ρ' h' ρ'' h''):Full ρ h ρ'' h'' :=
  ⟨x.grow.trans y.grow x.live,fun b o e n=>by
      refine ex1 (x.keep b o e n) fun o' zz=>Ac zz fun e' u=>?_
      refine ex1 (y.keep b o' e' (x.grow.not n e)) fun o'' zz=>Ac zz fun e'' u'=>?_
      exact ⟨o'',e'',u.trans u'⟩,x.live.trans y.live⟩
theorem Full.more {ρ:Rho} {h h':Heap} (k:∀ b o,h.get? b=some o -> h'.get? b=some o):Full ρ h ρ h' :=
  ⟨Jh.refl ρ h,fun b o e _=>⟨o,k b o e,.refl o⟩,fun b o e=>⟨o,k b o e⟩⟩
theorem Full.push (ρ:Rho) (h:Heap) (o:Obj):Full ρ h ρ (h.push o):=Full.more fun _ _ e=>Heap.get?_push_of_some _ e
theorem Full.alloc {ρ:Rho} {h h':Heap} {p:Addr × Addr} (k:∀ b o,h.get? b=some o -> h'.get? b=some o) (hp:h.get? p.1=none /\ h.get? p.2=none):Full ρ h (ρ++[p]) h' :=
  ⟨⟨[p],rfl,fun q hq=>by rw [List.mem_singleton.mp hq];exact hp⟩,fun b o e _=>⟨o,k b o e,.refl o⟩,fun b o e=>⟨o,k b o e⟩⟩
theorem Step.ext {ρ:Rho} {h h':Heap} {a:Addr} {o:Obj} (e:h.get? a=some o) (hs:Heap.ExtBut a h h') (n1:¬ Fk o) (n2:∀ C,¬ C7 o C):Step ρ h ρ h' :=
  ⟨⟨[],by simp⟩,fun b ob eb f no=>⟨hs b ob (fun q=>by subst q;rw [e] at eb;cases eb;exact n1 f) eb,no⟩,
    fun b ob C eb c no=>⟨ob,hs b ob (fun q=>by subst q;rw [e] at eb;cases eb;exact n2 C c) eb,c,no⟩⟩
theorem SameBut.live {h h':Heap} {a:Addr} {o':Obj} (hs:Heap.SameBut a h h') (e':h'.get? a=some o'):E1 h h':=fun b o e=>by
  by_cases q:b=a
  · subst q;exact ⟨o',e'⟩
  · exact ⟨o,by rw [hs.2 b q];exact e⟩
theorem Step.but {ρ:Rho} {h h':Heap} {a:Addr} {o o':Obj} (e':h'.get? a=some o') (e:h.get? a=some o) (hs:Heap.SameBut a h h') (n1:¬ Fk o) (n2:∀ C,¬ C7 o C):Step ρ h ρ h' :=
  ⟨⟨[],by simp⟩,fun b ob eb f no=>by
      by_cases q:b=a
      · subst q;rw [e] at eb;cases eb;exact absurd f n1
      · rw [hs.2 b q];exact ⟨eb,no⟩,
    fun b ob C eb c no=>by
      by_cases q:b=a
      · subst q;rw [e] at eb;cases eb;exact absurd c (n2 C)
      · exact ⟨ob,by rw [hs.2 b q];exact eb,c,no⟩⟩
theorem Full.own {ρ:Rho} {h h':Heap} {a:Addr} {o':Obj} (o:Av ρ a) (e':h'.get? a=some o') (hs:Heap.SameBut a h h'):Full ρ h ρ h' :=
  ⟨Jh.refl ρ h,fun b ob eb n=>by
      have q:b≠a:=fun q=>n (q▸o)
      exact ⟨ob,by rw [hs.2 b q];exact eb,.refl ob⟩,SameBut.live hs e'⟩
structure Cx where
  prog:Program
  w:World
  T:Tab
  s₀:Shared
  cls:List Value
  attrs:List Str
  fns:List Addr
noncomputable def Cx.h₀ (cx:Cx):Heap:=cx.s₀.heap
noncomputable def Bq (vs:List Value) (n:Nat):Obj:={ cls:=.type "list",dict:=none,data:=.seq vs.toArray n,slots:=#[] }
noncomputable def Ox (vs:List Value) (n:Nat):Obj:={ cls:=.type "tuple",dict:=none,data:=.seq vs.toArray n,slots:=#[] }
mutual
inductive VR (cx:Cx) (ρ:Rho) (h:Heap):Val -> Value -> Prop
  | none:VR cx ρ h .none .none
  | bool (b:Bool):VR cx ρ h (.bool b) (.bool b)
  | int (i:Int) (t:Tok):VR cx ρ h (.int i) (.int i t)
  | str (s:Str) (t:Tok):s.length <= sizeLine -> VR cx ρ h (.str s) (.str s t)
  | tup {a:Addr} {vs:List Value} {n:Nat} {ms:List Val}:h.get? a=some (Ox vs n) -> ¬ Av ρ a -> ms.length <= sizeLine -> VRs cx ρ h ms vs -> VR cx ρ h (.tup ms) (.ref a)
  | loc {l:Nat} {p:Addr × Addr}:ρ[l]?=some p -> VR cx ρ h (.loc l) (.ref p.1)
  | script {a:Addr} {vs:List Value} {n:Nat} {ns:List Int}:cx.h₀.get? a=some (Bq vs n) -> ns.length <= sizeLine -> VRs cx ρ h (ns.map .int) vs -> VR cx ρ h (.script ns) (.ref a)
  | rng {a:Addr} {i:Int} {t u v:Tok}:IsRange h a 0 i 1 t u v -> ¬ Av ρ a -> -(2 ^ 62) <= i -> i < 2 ^ 62 -> VR cx ρ h (.rng i) (.ref a)
  | exc {a:Addr} {o:Obj} {c:Nat} {C:Addr}:h.get? a=some o -> ¬ Av ρ a -> cx.cls[c]?=some (.ref C) -> C7 o C -> VR cx ρ h (.exc c) (.ref a)
inductive VRs (cx:Cx) (ρ:Rho) (h:Heap):List Val -> List Value -> Prop
  | nil:VRs cx ρ h [] []
  | cons {m:Val} {v:Value} {ms:List Val} {vs:List Value}:VR cx ρ h m v -> VRs cx ρ h ms vs -> VRs cx ρ h (m :: ms) (v :: vs)
end
theorem VRs.step {cx:Cx} {ρ ρ':Rho} {h h':Heap} (st:Step ρ h ρ' h') {ms:List Val} {vs:List Value} (r:VRs cx ρ h ms vs):VRs cx ρ' h' ms vs :=
  VRs.rec (motive_1:=fun m v _=>VR cx ρ' h' m v) (motive_2:=fun ms vs _=>VRs cx ρ' h' ms vs) .none .bool .int .str
    (fun e n z _ r=>.tup (st.keepT _ _ e (.inl ⟨rfl,_,_,rfl⟩) n).1 (st.keepT _ _ e (.inl ⟨rfl,_,_,rfl⟩) n).2 z r)
    (fun e=>.loc (st.get e)) (fun e z _ r=>.script e z r)
    (fun e n z1 z2=>.rng (st.keepT _ _ e (.inr ⟨rfl,_,rfl⟩) n).1 (st.keepT _ _ e (.inr ⟨rfl,_,rfl⟩) n).2 z1 z2)
    (fun e n k c=>(st.keepC _ _ _ e c n).elim fun o' w=>.exc w.1 w.2.2 k w.2.1) .nil (fun _ _ a r=>.cons a r) r
theorem VRs.head {cx:Cx} {ρ:Rho} {h:Heap} {m:Val} {v:Value} {ms:List Val} {vs:List Value} (r:VRs cx ρ h (m :: ms) (v :: vs)):VR cx ρ h m v:=by
  cases r;assumption
theorem VR.step {cx:Cx} {ρ ρ':Rho} {h h':Heap} (st:Step ρ h ρ' h') {m:Val} {v:Value} (x:VR cx ρ h m v):VR cx ρ' h' m v:=(VRs.step st (.cons x .nil)).head
section
variable {cx:Cx} {ρ:Rho} {h:Heap} {ms ms':List Val} {vs vs':List Value} {m:Val} {v:Value}
theorem VRs.length (r:VRs cx ρ h ms vs):ms.length=vs.length:=by
  induction ms generalizing vs with
  | nil=>cases r;rfl
  | cons m ms ih=>cases r with | cons a r=>rw [List.length_cons,List.length_cons,ih r]
theorem VRs.append (r:VRs cx ρ h ms vs) (r':VRs cx ρ h ms' vs'):VRs cx ρ h (ms++ms') (vs++vs'):=by
  induction ms generalizing vs with
  | nil=>cases r;exact r'
  | cons m ms ih=>cases r with | cons a r=>exact .cons a (ih r)
theorem VRs.get (r:VRs cx ρ h ms vs) {k:Nat} (e:ms[k]?=some m):∃ v,vs[k]?=some v /\ VR cx ρ h m v:=by
  induction ms generalizing vs k with
  | nil=>simp at e
  | cons m' ms ih =>
    cases r with
    | cons a r =>
      cases k with
      | zero=>simp at e;refine e▸?_;exact ⟨_,by simp,a⟩
      | succ k=>simp at e;refine ex1 (ih r e) fun v zz=>Ac zz fun hv hr=>?_;exact ⟨v,by simpa using hv,hr⟩
theorem VRs.one (r:VR cx ρ h m v):VRs cx ρ h [m] [v]:=.cons r .nil
theorem VRs.set (r:VRs cx ρ h ms vs) (k:Nat) (a:VR cx ρ h m v):VRs cx ρ h (ms.set k m) (vs.set k v):=by
  induction ms generalizing vs k with
  | nil=>cases r;exact .nil
  | cons m' ms ih =>
    cases r with
    | cons b r =>
      cases k with
      | zero=>exact .cons a r
      | succ k=>exact .cons b (ih r k)
theorem VRs.take (r:VRs cx ρ h ms vs) (k:Nat):VRs cx ρ h (ms.take k) (vs.take k):=by
  induction ms generalizing vs k with
  | nil=>cases r;simp;exact .nil
  | cons m' ms ih =>
    cases r with
    | cons b r =>
      cases k with
      | zero=>exact .nil
      | succ k=>exact .cons b (ih r k)
theorem VRs.drop (r:VRs cx ρ h ms vs) (k:Nat):VRs cx ρ h (ms.drop k) (vs.drop k):=by
  induction ms generalizing vs k with
  | nil=>cases r;simp;exact .nil
  | cons m' ms ih =>
    cases r with
    | cons b r =>
      cases k with
      | zero=>exact .cons b r
      | succ k=>exact ih r k
theorem VRs.eraseIdx (r:VRs cx ρ h ms vs) (k:Nat):VRs cx ρ h (ms.eraseIdx k) (vs.eraseIdx k):=by
  induction ms generalizing vs k with
  | nil=>cases r;simp;exact .nil
  | cons m' ms ih =>
    cases r with
    | cons b r =>
      cases k with
      | zero=>exact r
      | succ k=>exact .cons b (ih r k)
theorem VRs.replicate (a:VR cx ρ h m v) (n:Nat):VRs cx ρ h (List.replicate n m) (List.replicate n v):=by
  induction n with
  | zero=>exact .nil
  | succ n ih=>exact .cons a ih
end
noncomputable abbrev cellKind (cx:Cx):HeapKind cx.prog cx.w (List Int):=tupleKind (intKind cx.prog cx.w)
inductive DRs (cx:Cx) (ρ:Rho) (h:Heap):List (Key × Val) -> List (List Int × Addr × Value) -> Prop
  | nil:DRs cx ρ h [] []
  | cons {k:Key} {v:Val} {b:Addr} {x:Value} {es:List (Key × Val)} {xs:List (List Int × Addr × Value)} :
      VR cx ρ h v x -> VR cx ρ h (Aa k) (.ref b) -> DRs cx ρ h es xs -> DRs cx ρ h ((k,v) :: es) (([k.1,k.2],b,x) :: xs)
theorem DRs.step {cx:Cx} {ρ ρ':Rho} {h h':Heap} (st:Step ρ h ρ' h') {es:List (Key × Val)} {xs:List (List Int × Addr × Value)} (r:DRs cx ρ h es xs):DRs cx ρ' h' es xs:=by
  induction r with
  | nil=>exact .nil
  | @cons k v b x es xs a n _ ih=>exact .cons (a.step st) (n.step st) ih
theorem VR.free {cx:Cx} {ρ:Rho} {h:Heap} {vs:List Val} {b:Addr} (x:VR cx ρ h (.tup vs) (.ref b)):¬ Av ρ b:=by
  cases x with
  | tup _ no _ _=>exact no
inductive HR (cx:Cx) (ρ:Rho) (h:Heap):HObj -> Addr × Addr -> Prop
  | list {a:Addr} {vs:List Value} {n:Nat} {xs:List Val}:h.get? a=some (Bq vs n) -> VRs cx ρ h xs vs -> xs.length <= sizeLine -> HR cx ρ h (.list xs) (a,a)
  | dict {a:Addr} {es:List (Key × Val)} {xs:List (List Int × Addr × Value)}:h.DictOfH (cellKind cx) a xs -> DRs cx ρ h es xs -> es.length <= sizeLine -> HR cx ρ h (.dict es) (a,a)
  | inst {a d C:Addr} {o:Obj} {c:Nat} {fs:List (Nat × Val)} {mA:Str -> Option Value}:(cx.T.meth c 0).isSome=true -> cx.cls[c]?=some (.ref C) -> h.get? a=some o -> o.cls=.ref C -> (∀ c,o.data≠.cls c) -> o.dict=some d -> d≠a -> h.Ns1 d mA ->
      (∀ n v,fs.lookup n=some v -> ∃ y x,cx.attrs[n]?=some y /\ mA y=some x /\ VR cx ρ h v x) ->
      (∀ y,mA y≠none -> ∃ n v,cx.attrs[n]?=some y /\ fs.lookup n=some v) ->
      HR cx ρ h (.inst c fs) (a,d)
  | hid {a:Addr} {x y:Value}:h.get? a=some (Ox [x,y] 0) -> HR cx ρ h .hid (a,a)
structure Rel (cx:Cx) (H:Hp) (ρ:Rho) (s:Shared):Prop where
  len:H.length=ρ.length
  objs:∀ (l:Nat) (o:HObj) (p:Addr × Addr),H[l]?=some o -> ρ[l]?=some p -> HR cx ρ s.heap o p
  apart:∀ (i j:Nat) (p q:Addr × Addr),i≠j -> ρ[i]?=some p -> ρ[j]?=some q -> (p.1≠q.1 /\ p.1≠q.2) /\ (p.2≠q.1 /\ p.2≠q.2)
  new:∀ p∈ρ,cx.h₀.get? p.1=none /\ cx.h₀.get? p.2=none
  base:∀ b o,cx.h₀.get? b=some o -> s.heap.get? b=some o
  sys:∃ o,cx.h₀.get? sysModules=some o
  rest:∃ h tk,s={ cx.s₀ with heap:=h,toks:=tk }
theorem Rel.size {cx:Cx} {H:Hp} {ρ:Rho} {s:Shared} (R:Rel cx H ρ s):∀ p∈ρ,(∃ o,s.heap.get? p.1=some o) /\ ∃ o,s.heap.get? p.2=some o:=by
  intro p hp
  refine ex1 (List.mem_iff_getElem.mp hp) fun l zz=>ex1 zz fun hl e=>?_
  have e':ρ[l]?=some p:=by rw [List.getElem?_eq_getElem hl,e]
  have hH:l < H.length:=by rw [R.len];exact hl
  obtain ⟨ob,hob⟩:∃ ob,H[l]?=some ob:=⟨_,List.getElem?_eq_getElem hH⟩
  have:=R.objs l ob p hob e'
  clear e e'
  cases this with
  | list q _ _=>exact ⟨⟨_,q⟩,_,q⟩
  | dict q _ _=>refine ex3 q fun o _ _ zz=>Ac zz fun q _=>?_;exact ⟨⟨_,q⟩,_,q⟩
  | inst _ _ q _ _ _ _ n _ _=>refine ex3 n fun o' _ _ zz=>Ac zz fun q' _=>?_;exact ⟨⟨_,q⟩,_,q'⟩
  | hid q=>exact ⟨⟨_,q⟩,_,q⟩
theorem Rel.owned_lt {cx:Cx} {H:Hp} {ρ:Rho} {s:Shared} (R:Rel cx H ρ s) {a:Addr} (o:Av ρ a):∃ o,s.heap.get? a=some o:=by
  obtain ⟨p,hp,rfl | rfl⟩:=o
  · exact (R.size p hp).1
  · exact (R.size p hp).2
theorem Rel.owned_new {cx:Cx} {H:Hp} {ρ:Rho} {s:Shared} (R:Rel cx H ρ s) {a:Addr} (o:Av ρ a):cx.h₀.get? a=none:=by
  obtain ⟨p,hp,rfl | rfl⟩:=o
  · exact (R.new p hp).1
  · exact (R.new p hp).2
theorem Rel.base_not {cx:Cx} {H:Hp} {ρ:Rho} {s:Shared} (R:Rel cx H ρ s) {a:Addr} {o:Obj} (e:cx.h₀.get? a=some o):¬ Av ρ a:=fun w=>by rw [R.owned_new w] at e;exact Ae e
theorem HR.step {cx:Cx} {ρ ρ':Rho} {h h':Heap} {o:HObj} {p:Addr × Addr} (x:HR cx ρ h o p) (st:Step ρ h ρ' h') (k:∀ b ob,(b=p.1 \/ b=p.2) -> h.get? b=some ob -> h'.get? b=some ob):HR cx ρ' h' o p:=by
  cases x with
  | list e r z=>exact .list (k _ _ (.inl rfl) e) (r.step st) z
  | @dict a es xs D r z =>
    obtain ⟨ob,es',ep,e,ex,d,el,ks,nd⟩:=D
    have ks':∀ x∈xs,(cellKind cx).is h' x.1 x.2.1:=by
      intro x hx
      obtain ⟨ok,items,n,hk,hc,hd',rest⟩:=ks x hx
      refine ⟨ok,items,n,(st.keepT _ _ hk (.inl ⟨hc,_,_,hd'⟩) ?_).1,hc,hd',rest⟩
      clear rest el nd z ks d ex e k
      induction r with
      | nil=>cases hx
      | cons a n _ ih =>
        cases hx with
        | head=>exact VR.free n
        | tail _ hx=>exact ih hx
    exact .dict ⟨ob,es',ep,k _ _ (.inl rfl) e,ex,d,el,ks',nd⟩ (r.step st) z
  | hid e=>exact .hid (k _ _ (.inl rfl) e)
  | inst c0 c e k1 k2 k3 k4 n f g =>
    refine .inst c0 c (k _ _ (.inl rfl) e) k1 k2 k3 k4 (n.at fun o e=>k _ _ (.inr rfl) e) (fun i v hv=>?_) g
    refine Af fun G kG=>?_
    obtain ⟨y,x,h1,h2,h3⟩:=f i v hv
    refine kG ?_
    exact ⟨y,x,h1,h2,h3.step st⟩
section
variable {cx:Cx} {H:Hp} {ρ:Rho} {s:Shared}
theorem Rel.same (R:Rel cx H ρ s) {h':Heap} {tk:Nat} (st:Step ρ s.heap ρ h') (ko:∀ b o,Av ρ b -> s.heap.get? b=some o -> h'.get? b=some o) (kb:∀ b o,cx.h₀.get? b=some o -> h'.get? b=some o) :
    Rel cx H ρ { s with heap:=h',toks:=tk }:=by
  refine ⟨R.len,fun l o p hl hp=>?_,R.apart,R.new,kb,R.sys,?_⟩
  · refine (R.objs l o p hl hp).step st fun b ob hb e=>ko b ob ⟨p,zF hp,hb⟩ e
  · refine ex2 R.rest fun h t hr0=>?_;refine Eq.symm hr0▸?_
    exact ⟨h',tk,rfl⟩
theorem Rel.toks (R:Rel cx H ρ s) (tk:Nat):Rel cx H ρ { s with toks:=tk } :=
  R.same (h':=s.heap) (Step.refl _ _) (fun _ _ _ e=>e) R.base
theorem Rel.more (R:Rel cx H ρ s) {h':Heap} {tk:Nat} (k:∀ b o,s.heap.get? b=some o -> h'.get? b=some o):Rel cx H ρ { s with heap:=h',toks:=tk } :=
  R.same (Full.more k).step (fun b o _ e=>k b o e) fun b o e=>k b o (R.base b o e)
theorem Rel.push (R:Rel cx H ρ s) (o:Obj) (tk:Nat):Rel cx H ρ { s with heap:=s.heap.push o,toks:=tk } :=
  R.more fun _ _ e=>Heap.get?_push_of_some _ e
theorem Rel.but (R:Rel cx H ρ s) {h':Heap} {tk:Nat} {a:Addr} {o:Obj} {o':Obj} (e':h'.get? a=some o') (e:s.heap.get? a=some o) (hs:Heap.SameBut a s.heap h') (n1:¬ Fk o) (n2:∀ C,¬ C7 o C) (no:¬ Av ρ a) (nb:cx.h₀.get? a=none) :
    Rel cx H ρ { s with heap:=h',toks:=tk } :=
  R.same (Step.but e' e hs n1 n2) (fun b ob ho eb=>by rw [hs.2 b (fun q=>no (q▸ho))];exact eb) fun b ob eb=>by
    rw [hs.2 b (fun q=>by subst q;rw [nb] at eb;exact nomatch eb)];exact R.base b ob eb
theorem Rel.fresh_not (R:Rel cx H ρ s) {a:Addr} (ha:s.heap.get? a=none):¬ Av ρ a:=fun w=>by obtain ⟨o,e⟩:=R.owned_lt w;rw [ha] at e;exact Ae e
theorem Rel.alloc (R:Rel cx H ρ s) {h':Heap} {tk:Nat} {o:HObj} {p:Addr × Addr} (k:∀ b o,s.heap.get? b=some o -> h'.get? b=some o)
    (hp:s.heap.get? p.1=none /\ s.heap.get? p.2=none) (x:HR cx (ρ++[p]) h' o p):Full ρ s.heap (ρ++[p]) h' /\ Rel cx (H++[o]) (ρ++[p]) { s with heap:=h',toks:=tk }:=by
  have F:Full ρ s.heap (ρ++[p]) h':=⟨⟨[p],rfl,fun q hq=>by rw [List.mem_singleton.mp hq];exact hp⟩,fun b o e _=>⟨o,k b o e,.refl o⟩,fun b o e=>⟨o,k b o e⟩⟩
  refine ⟨F,⟨by rw [List.length_append,List.length_append,R.len];rfl,fun l ob q hl hq=>?_,fun i j q r hij hi hj=>?_,fun q hq=>?_,fun b o e=>k b o (R.base b o e),R.sys,?_⟩⟩
  · by_cases lt:l < H.length
    · rw [List.getElem?_append_left lt] at hl
      rw [List.getElem?_append_left (by rw [<- R.len];exact lt)] at hq
      exact (R.objs l ob q hl hq).step F.step fun b ob _ e=>k b ob e
    · have hl':=(List.getElem?_eq_some_iff.mp hl).1
      have le:l=H.length:=by rw [List.length_append] at hl';simp at hl';exact o1 hl' lt
      subst le
      rw [List.getElem?_append_right (zI _)] at hl
      rw [List.getElem?_append_right (by rw [R.len];exact zI _)] at hq
      rw [R.len] at hq
      simp at hl hq
      subst hl hq
      exact x
  · have old:∀ {i:Nat} {q:Addr × Addr},ρ[i]?=some q -> (∃ o,s.heap.get? q.1=some o) /\ ∃ o,s.heap.get? q.2=some o:=fun h=>R.size _ (zF h)
    have ne:∀ {a b:Addr},(∃ o,s.heap.get? a=some o) -> s.heap.get? b=none -> a≠b:=fun ⟨o,e⟩ n q=>by rw [q,n] at e;exact Ae e
    have at':∀ {i:Nat} {q:Addr × Addr},(ρ++[p])[i]?=some q -> ρ[i]?=some q \/ (i=ρ.length /\ q=p):=by
      intro i q h
      by_cases lt:i < ρ.length
      · rw [List.getElem?_append_left lt] at h;exact .inl h
      · have hl':=(List.getElem?_eq_some_iff.mp h).1
        have le:i=ρ.length:=by rw [List.length_append] at hl';simp at hl';exact o1 hl' lt
        subst le
        rw [List.getElem?_append_right (zI _)] at h
        simp at h
        exact .inr ⟨rfl,h.symm⟩
    rcases at' hi with hi' | ⟨hi',eq⟩ <;> rcases at' hj with hj' | ⟨hj',er⟩
    · exact R.apart i j q r hij hi' hj'
    · have q:=old hi';rw [er];exact ⟨⟨ne q.1 hp.1,ne q.1 hp.2⟩,ne q.2 hp.1,ne q.2 hp.2⟩
    · have q:=old hj';rw [eq];exact ⟨⟨(ne q.1 hp.1).symm,(ne q.2 hp.1).symm⟩,(ne q.1 hp.2).symm,(ne q.2 hp.2).symm⟩
    · exact absurd (hi'.trans hj'.symm) hij
  · rcases List.mem_append.mp hq with hq | hq
    · exact R.new q hq
    · have lv:E1 cx.h₀ s.heap:=fun b o e=>⟨o,R.base b o e⟩
      rw [List.mem_singleton.mp hq];exact ⟨lv.none hp.1,lv.none hp.2⟩
  · refine ex2 R.rest fun h t hr0=>?_;refine Eq.symm hr0▸?_
    exact ⟨h',tk,rfl⟩
theorem Rel.set (R:Rel cx H ρ s) {l:Nat} {h':Heap} {tk:Nat} {o:HObj} {p:Addr × Addr} (hl:ρ[l]?=some p) (k:∀ b o,s.heap.get? b=some o -> b≠p.1 -> b≠p.2 -> h'.get? b=some o) (z:E1 s.heap h')
    (x:HR cx ρ h' o p):Full ρ s.heap ρ h' /\ Rel cx (H.set l o) ρ { s with heap:=h',toks:=tk }:=by
  have own:∀ b,¬ Av ρ b -> b≠p.1 /\ b≠p.2:=fun b n=>⟨fun e=>n ⟨p,zF hl,.inl e⟩,fun e=>n ⟨p,zF hl,.inr e⟩⟩
  have F:Full ρ s.heap ρ h':=⟨Jh.refl _ _,fun b ob e n=>⟨ob,k b ob e (own b n).1 (own b n).2,.refl ob⟩,z⟩
  refine ⟨F,⟨by rw [List.length_set,R.len],fun i ob q hi hq=>?_,R.apart,R.new,fun b ob e=>?_,R.sys,?_⟩⟩
  · by_cases e:i=l
    · subst e
      rw [hl] at hq;cases hq
      have lt:i < H.length:=by rw [R.len];exact (List.getElem?_eq_some_iff.mp hl).1
      rw [List.getElem?_set_self lt] at hi
      cases hi;exact x
    · rw [List.getElem?_set_ne (fun q=>e q.symm)] at hi
      refine (R.objs i ob q hi hq).step F.step fun b ob' hb eb=>?_
      refine An (R.apart i l q p e hq hl) fun zn0 a3 a4=>?_;obtain ⟨a1,a2⟩:=zn0
      rcases hb with rfl | rfl
      · exact k _ _ eb a1 a2
      · exact k _ _ eb a3 a4
  · have n:=R.base_not e
    exact k b ob (R.base b ob e) (own b n).1 (own b n).2
  · refine ex2 R.rest fun h t hr0=>?_;refine Eq.symm hr0▸?_
    exact ⟨h',tk,rfl⟩
end
structure Amb where
  P:Rho -> Heap -> Prop
  st:∀ ρ h ρ' h',P ρ h -> Full ρ h ρ' h' -> P ρ' h'
noncomputable def Amb.and (P Q:Amb):Amb:=⟨fun ρ h=>P.P ρ h /\ Q.P ρ h,fun ρ h ρ' h' x f=>⟨P.st _ _ _ _ x.1 f,Q.st _ _ _ _ x.2 f⟩⟩
noncomputable def Amb.tt:Amb:=⟨fun _ _=>True,fun _ _ _ _ _ _=>trivial⟩
noncomputable def Amb.prop (p:Prop):Amb:=⟨fun _ _=>p,fun _ _ _ _ x _=>x⟩
noncomputable def Amb.vr (cx:Cx) (m:Val) (v:Value):Amb:=⟨fun ρ h=>VR cx ρ h m v,fun _ _ _ _ x f=>x.step f.step⟩
noncomputable def Amb.vrs (cx:Cx) (ms:List Val) (vs:List Value):Amb:=⟨fun ρ h=>VRs cx ρ h ms vs,fun _ _ _ _ x f=>x.step f.step⟩
structure Flying (cx:Cx) (ρ:Rho) (h h':Heap) (c:Nat) (e:Value):Prop where
  is:∃ (a C:Addr) (vs:Array Value),e=.ref a /\ cx.cls[c]?=some (.ref C) /\ h.get? a=none /\ h'.get? a=some { cls:=.ref C,dict:=none,data:=.fields vs,slots:=#[] } /\ vs.size=6 /\ ¬ Av ρ a /\
    (vs[1]?=some .none \/ ∃ (tb:Addr) (tvs:Array Value),vs[1]?=some (.ref tb) /\ h.get? tb=none /\ h'.get? tb=some { cls:=.type "traceback",dict:=none,data:=.fields tvs,slots:=#[] } /\ tvs.size=11 /\ ¬ Av ρ tb)
theorem Flying.older {cx:Cx} {ρ:Rho} {h₁ h h':Heap} {c:Nat} {e:Value} (x:Flying cx ρ h h' c e) (z:E1 h₁ h):Flying cx ρ h₁ h' c e:=by
  refine ex3 x.is fun a C vs zz=>Nj zz fun e1 e2 e3 e4 e5 e6 e7=>?_
  refine ⟨a,C,vs,e1,e2,z.none e3,e4,e5,e6,?_⟩
  rcases e7 with e7 | ⟨tb,tvs,f1,f2,f3⟩
  · exact .inl e7
  · exact .inr ⟨tb,tvs,f1,z.none f2,f3⟩
noncomputable def Bf {α β:Type} (cx:Cx) (A:Around) (r:Res β) (t:Sem α) (V:β -> α -> Amb) (ρ:Rho) (s:Shared):Prop :=
  match r with
  | .bad=>True
  | .ok b H'=>wpAny (model cx.prog cx.w) A t (fun a s'=>∃ ρ',Full ρ s.heap ρ' s'.heap /\ Rel cx H' ρ' s' /\ (V b a).P ρ' s'.heap) (fun _ _=>False) s
  | .exc c H'=>wpAny (model cx.prog cx.w) A t (fun _ _=>False) (fun e s'=>∃ ρ',Full ρ s.heap ρ' s'.heap /\ Rel cx H' ρ' s' /\ Flying cx ρ' s.heap s'.heap c e) s
noncomputable def Sim {α β:Type} (cx:Cx) (A:Around) (P:Amb) (t:Sem α) (m:M β) (V:β -> α -> Amb):Prop :=
  ∀ (H:Hp) (ρ:Rho) (s:Shared),Rel cx H ρ s -> P.P ρ s.heap -> Bf cx A (m H) t V ρ s
section
variable {α β γ δ:Type} {cx:Cx} {A:Around} {P:Amb} {t:Sem α} {m:M β} {V:β -> α -> Amb}
theorem Bf.bind {f:α -> Sem γ} {g:β -> M δ} {W:δ -> γ -> Amb} {ρ:Rho} {s:Shared} {H:Hp} (x:Bf cx A (m H) t V ρ s)
    (y:∀ b a H' ρ' s',m H=.ok b H' -> Full ρ s.heap ρ' s'.heap -> Rel cx H' ρ' s' -> (V b a).P ρ' s'.heap -> Bf cx A (g b H') (f a) W ρ' s') :
    Bf cx A (m.bnd g H) (t>>=f) W ρ s:=by
  cases e:m H with
  | bad=>rw [C9 e];trivial
  | exc c H' =>
    rw [E2 e]
    rw [e] at x
    exact zB (zE x (fun _ _ q=>q.elim) fun _ _ q=>q)
  | ok b H' =>
    rw [Dt e]
    rw [e] at x
    have y':=y b
    cases e2:g b H' with
    | bad=>trivial
    | exc c H'' =>
      refine zB (zE x (fun a s' ⟨ρ',F,R,v⟩=>?_) fun _ _ q=>q.elim)
      have z:=y b a H' ρ' s' e F R v
      rw [e2] at z
      exact zE z (fun _ _ q=>q) fun e s'' ⟨ρ'',F',R',fl⟩=>⟨ρ'',F.trans F',R',fl.older F.live⟩
    | ok d H'' =>
      refine zB (zE x (fun a s' ⟨ρ',F,R,v⟩=>?_) fun _ _ q=>q.elim)
      have z:=y b a H' ρ' s' e F R v
      rw [e2] at z
      exact zE z (fun a' s'' ⟨ρ'',F',R',w⟩=>⟨ρ'',F.trans F',R',w⟩) fun _ _ q=>q.elim
theorem Sim.bind {f:α -> Sem γ} {g:β -> M δ} {W:δ -> γ -> Amb} (x:Sim cx A P t m V) (y:∀ b a,Sim cx A (P.and (V b a)) (f a) (g b) W):Sim cx A P (t>>=f) (m.bnd g) W :=
  fun H ρ s R p=>Bf.bind (x H ρ s R p) fun b a H' ρ' s' _ F R' v=>y b a H' ρ' s' R' ⟨P.st _ _ _ _ p F,v⟩
noncomputable def Gm {α β:Type} (cx:Cx) (r:Res β) (K:(α -> Shared -> Prop) -> (Value -> Shared -> Prop) -> Shared -> Prop) (V:β -> α -> Amb) (ρ:Rho) (s:Shared):Prop :=
  match r with
  | .bad=>True
  | .ok b H'=>K (fun a s'=>∃ ρ',Full ρ s.heap ρ' s'.heap /\ Rel cx H' ρ' s' /\ (V b a).P ρ' s'.heap) (fun _ _=>False) s
  | .exc c H'=>K (fun _ _=>False) (fun e s'=>∃ ρ',Full ρ s.heap ρ' s'.heap /\ Rel cx H' ρ' s' /\ Flying cx ρ' s.heap s'.heap c e) s
theorem Gm.of {r:Res β} {ρ:Rho} {s:Shared} (x:Bf cx A r t V ρ s):Gm cx r (fun Q E s=>wpAny (model cx.prog cx.w) A t Q E s) V ρ s:=x
noncomputable def P9 {α:Type} (K:(α -> Shared -> Prop) -> (Value -> Shared -> Prop) -> Shared -> Prop):Prop :=
  ∀ Q E Q' E' s,K Q E s -> (∀ a s,Q a s -> Q' a s) -> (∀ e s,E e s -> E' e s) -> K Q' E' s
theorem Bf.bindK {g:β -> M δ} {W:δ -> γ -> Amb} {ρ:Rho} {s:Shared} {H:Hp} {K:α -> (γ -> Shared -> Prop) -> (Value -> Shared -> Prop) -> Shared -> Prop} {K':(γ -> Shared -> Prop) -> (Value -> Shared -> Prop) -> Shared -> Prop} (x:Bf cx A (m H) t V ρ s)
    (y:∀ b a H' ρ' s',m H=.ok b H' -> Full ρ s.heap ρ' s'.heap -> Rel cx H' ρ' s' -> (V b a).P ρ' s'.heap -> Gm cx (g b H') (K a) W ρ' s')
    (mk:∀ a,P9 (K a))
    (k:∀ Q E,wpAny (model cx.prog cx.w) A t (fun a s'=>K a Q E s') E s -> K' Q E s) :
    Gm cx (m.bnd g H) K' W ρ s:=by
  cases e:m H with
  | bad=>rw [C9 e];trivial
  | exc c H' =>
    rw [E2 e]
    rw [e] at x
    exact k _ _ (zE x (fun _ _ q=>q.elim) fun _ _ q=>q)
  | ok b H' =>
    rw [Dt e]
    rw [e] at x
    cases e2:g b H' with
    | bad=>trivial
    | exc c H'' =>
      refine k _ _ (zE x (fun a s' ⟨ρ',F,R,v⟩=>?_) fun _ _ q=>q.elim)
      have z:=y b a H' ρ' s' e F R v
      rw [e2] at z
      exact mk a _ _ _ _ _ z (fun _ _ q=>q) fun e s'' ⟨ρ'',F',R',fl⟩=>⟨ρ'',F.trans F',R',fl.older F.live⟩
    | ok d H'' =>
      refine k _ _ (zE x (fun a s' ⟨ρ',F,R,v⟩=>?_) fun _ _ q=>q.elim)
      have z:=y b a H' ρ' s' e F R v
      rw [e2] at z
      exact mk a _ _ _ _ _ z (fun a' s'' ⟨ρ'',F',R',w⟩=>⟨ρ'',F.trans F',R',w⟩) fun _ _ q=>q.elim
theorem Gm.lookK {ρ:Rho} {s:Shared} {H:Hp} {f:Hp -> Option β} {g:β -> M δ} {W:δ -> γ -> Amb} {K:(γ -> Shared -> Prop) -> (Value -> Shared -> Prop) -> Shared -> Prop} (y:∀ b,f H=some b -> Gm cx (g b H) K W ρ s):Gm cx ((M.look f).bnd g H) K W ρ s:=by
  cases e:f H with
  | none=>rw [C9 (show M.look f H=.bad by unfold M.look;rw [e])];trivial
  | some b=>rw [Dt (show M.look f H=.ok b H by unfold M.look;rw [e])];exact y b e
theorem Gm.mono {r:Res β} {ρ:Rho} {s:Shared} {K K':(α -> Shared -> Prop) -> (Value -> Shared -> Prop) -> Shared -> Prop} (x:Gm cx r K V ρ s) (k:∀ Q E,K Q E s -> K' Q E s):Gm cx r K' V ρ s:=by
  cases r with
  | bad=>trivial
  | exc c H'=>exact k _ _ x
  | ok b H'=>exact k _ _ x
theorem Sim.pre {t':Sem α} (x:Sim cx A P t m V) (k:∀ (Q:α -> Shared -> Prop) (E:Value -> Shared -> Prop) (s:Shared),wpAny (model cx.prog cx.w) A t Q E s -> wpAny (model cx.prog cx.w) A t' Q E s):Sim cx A P t' m V:=by
  intro H ρ s R p
  have z:=x H ρ s R p
  cases e:m H with
  | bad=>trivial
  | exc c H'=>rw [e] at z;exact k _ _ _ z
  | ok b H'=>rw [e] at z;exact k _ _ _ z
theorem Sim.holding {vs:List Value} (x:Sim cx A P t m V):Sim cx A P (holding vs t) m V:=x.pre fun _ _ _ h=>wpAny_holding h
theorem Sim.stand {pos:Pos} {k:Unit -> Sem α} (x:Sim cx A P (k ()) m V):Sim cx A P (standAt pos>>=k) m V:=x.pre fun _ _ _ h=>zB (wpAny_standAt h)
theorem Sim.weak {P':Amb} (x:Sim cx A P t m V) (k:∀ ρ h,P'.P ρ h -> P.P ρ h):Sim cx A P' t m V:=fun H ρ s R p=>x H ρ s R (k _ _ p)
theorem Sim.ret {a:α} {b:β} (k:∀ ρ h,P.P ρ h -> (V b a).P ρ h):Sim cx A P (pure a) (M.ret b) V :=
  fun H ρ s R p=>zH ⟨ρ,Full.refl _ _,R,k _ _ p⟩
theorem Sim.bad:Sim cx A P t (M.bad:M β) V:=fun _ _ _ _ _=>trivial
theorem Sim.look {f:Hp -> Option β} (k:∀ (H:Hp) (ρ:Rho) (s:Shared) (b:β),Rel cx H ρ s -> P.P ρ s.heap -> f H=some b ->
    ∀ (Q:α -> Shared -> Prop) (E:Value -> Shared -> Prop),(∀ a tk,(V b a).P ρ s.heap -> Q a { s with toks:=tk }) -> wpAny (model cx.prog cx.w) A t Q E s):Sim cx A P t (M.look f) V:=by
  intro H ρ s R p
  show Bf cx A (match f H with | some a=>Res.ok a H | none=>Res.bad) t V ρ s
  cases e:f H with
  | none=>trivial
  | some b=>exact k H ρ s b R p e _ _ fun a tk v=>⟨ρ,Full.refl _ _,R.toks tk,v⟩
end
noncomputable def Vs (env:Env) (h:Heap) (y:Str) (v:Value):Prop :=
  (env.kindOf y=some .local /\ ∃ m,h.Ns env.locals m /\ m y=some v) \/
  ((env.kindOf y=some .cell \/ env.kindOf y=some .free) /\ ∃ c,env.cells.lookup y=some c /\ h.IsCell c (some v))
noncomputable def Adf:NameKind -> Option NameKind -> Prop
  | .local,k=>k=some .local
  | .cell,k=>k=some .cell
  | .free,k=>k=some .free \/ k=some .cell
  | .globalImplicit,k=>k=some .globalImplicit
  | _,_=>True
structure EnvSt (cx:Cx) (env:Env) (sc:Scope) (ρ:Rho) (h:Heap):Prop where
  fn:env.scope.kind=.function
  glob:env.globals=mainGlobals
  blt:env.builtins=builtinsNs
  kinds:∀ y k,sc.names.lookup y=some k -> Adf k (env.kindOf y)
  loc:∃ m,h.Ns env.locals m
  locN:¬ Av ρ env.locals
  locB:cx.h₀.get? env.locals=none
  cells:∀ y c,env.cells.lookup y=some c -> (∃ v,h.IsCell c v) /\ ¬ Av ρ c /\ cx.h₀.get? c=none
  hasCell:∀ y,sc.names.lookup y=some .cell \/ sc.names.lookup y=some .free -> ∃ c,env.cells.lookup y=some c
  apart:∀ y z c,env.cells.lookup y=some c -> env.cells.lookup z=some c -> y=z
structure EnvOk (cx:Cx) (env:Env) (sc:Scope) (ns:List (Option Str)) (Γ:Env') (ρ:Rho) (h:Heap):Prop where
  st:EnvSt cx env sc ρ h
  len:Γ.length=ns.length
  vals:∀ (i:Nat) (y:Str) (mv:Val),ns[i]?=some (some y) -> Γ[i]?=some (some mv) -> ∃ v,Vs env h y v /\ VR cx ρ h mv v
theorem Bh {h h':Heap} {a:Addr} {m:Str -> Option Value} (n:h.Ns a m) (k:∀ o,h.get? a=some o -> ∃ o',h'.get? a=some o' /\ o'.data=o.data):h'.Ns a m:=by
  refine ex3 n fun o es ep zz=>An zz fun e d r=>?_
  refine ex1 (k o e) fun o' zz=>Ac zz fun e' d'=>?_
  exact ⟨o',es,ep,e',d'.trans d,r⟩
theorem Full.data {ρ ρ':Rho} {h h':Heap} (F:Full ρ h ρ' h') {a:Addr} (n:¬ Av ρ a):∀ o,h.get? a=some o -> ∃ o',h'.get? a=some o' /\ o'.data=o.data:=fun o e=>by
  refine ex1 (F.keep a o e n) fun o' zz=>Ac zz fun e' u=>?_
  exact ⟨o',e',u.data⟩
theorem Bi {h h':Heap} {c:Addr} {v:Option Value} (x:h.IsCell c v) (k:∀ o,h.get? c=some o -> ∃ o',h'.get? c=some o' /\ o'.data=o.data):h'.IsCell c v:=by
  refine ex1 x fun o zz=>Ac zz fun e d=>?_
  refine ex1 (k o e) fun o' zz=>Ac zz fun e' d'=>?_
  exact ⟨o',e',d'.trans d⟩
theorem EnvSt.full {cx:Cx} {env:Env} {sc:Scope} {ρ ρ':Rho} {h h':Heap} (x:EnvSt cx env sc ρ h) (F:Full ρ h ρ' h'):EnvSt cx env sc ρ' h':=by
  refine Af fun G kG=>?_
  obtain ⟨m,hm⟩:=x.loc
  refine ex3 (id hm) fun o es ep zz=>An zz fun e d r=>?_
  refine kG ?_
  refine ⟨x.fn,x.glob,x.blt,x.kinds,⟨m,Bh hm (F.data x.locN)⟩,F.grow.not x.locN e,x.locB,fun y c hc=>?_,x.hasCell,x.apart⟩
  refine Af fun G kG=>?_
  refine An (x.cells y c hc) fun zn0 n b=>?_;obtain ⟨v,hv⟩:=zn0
  refine ex1 (id hv) fun o zz=>Ac zz fun e _=>?_
  refine kG ?_
  exact ⟨⟨v,Bi hv (F.data n)⟩,F.grow.not n e,b⟩
theorem Vs.full {cx:Cx} {env:Env} {sc:Scope} {ρ ρ':Rho} {h h':Heap} {y:Str} {v:Value} (x:EnvSt cx env sc ρ h) (F:Full ρ h ρ' h') (q:Vs env h y v):Vs env h' y v:=by
  rcases q with ⟨k,m,hm,e⟩ | ⟨k,c,hc,e⟩
  · exact .inl ⟨k,m,Bh hm (F.data x.locN),e⟩
  · exact .inr ⟨k,c,hc,Bi e (F.data (x.cells y c hc).2.1)⟩
theorem EnvOk.full {cx:Cx} {env:Env} {sc:Scope} {ns:List (Option Str)} {Γ:Env'} {ρ ρ':Rho} {h h':Heap} (x:EnvOk cx env sc ns Γ ρ h) (F:Full ρ h ρ' h'):EnvOk cx env sc ns Γ ρ' h' :=
  ⟨x.st.full F,x.len,fun i y mv hi hm=>by
    refine ex1 (x.vals i y mv hi hm) fun v zz=>Ac zz fun hv r=>?_
    exact ⟨v,hv.full x.st F,r.step F.step⟩⟩
noncomputable def Amb.env (cx:Cx) (env:Env) (sc:Scope) (ns:List (Option Str)) (Γ:Env'):Amb:=⟨fun ρ h=>EnvOk cx env sc ns Γ ρ h,fun _ _ _ _ x F=>x.full F⟩
noncomputable def Aw (cx:Cx) (l:List Env) (ρ:Rho) (h:Heap):Prop :=
  ∀ env∈l,env.scope.kind≠.module /\ ∃ L o,env.frame=some L /\ cx.h₀.get? L=none /\ h.get? L=some o /\ (∃ es n,o.data=.dict es n) /\ ¬ Av ρ L
theorem Aw.full {cx:Cx} {l:List Env} {ρ ρ':Rho} {h h':Heap} (x:Aw cx l ρ h) (F:Full ρ h ρ' h'):Aw cx l ρ' h':=fun env he=>by
  refine Af fun G kG=>?_
  refine Ac (x env he) fun k zz=>ex2 zz fun L o zz=>Fo zz fun h1 h2 h3 h5 h6=>?_
  refine ex1 (F.keep L o h3 h6) fun o' zz=>Ac zz fun e' u=>?_
  refine kG ?_
  exact ⟨k,L,o',h1,h2,e',by rw [u.data];exact h5,F.grow.not h6 h3⟩
noncomputable def Amb.frames (cx:Cx) (l:List Env):Amb:=⟨fun ρ h=>Aw cx l ρ h,fun _ _ _ _ x F=>x.full F⟩
structure Room (A:Around) (d:Nat):Prop where
  hh:A.handled=none
  depth:A.depth+5 * d+150 < recursionLimit
  units:A.units+20 * d+100 < cLine
structure RoomF (A:Around) (d:Nat):Prop where
  hh:A.handled=none
  depth:A.depth+5 * d+147 < recursionLimit
  units:A.units+20 * d+90 < cLine
structure RoomQ (A:Around) (d:Nat):Prop where
  depth:A.depth+5 * d+147 < recursionLimit
  units:A.units+20 * d+90 < cLine
theorem RoomF.q {A:Around} {d:Nat} (r:RoomF A d):RoomQ A d:=⟨r.depth,r.units⟩
theorem Room.toF {A:Around} {d:Nat} (r:Room A d):RoomF A d:=⟨r.hh,by have:=r.depth;exact o2 this,by have:=r.units;exact o3 this⟩
theorem Room.in1 {A:Around} {d:Nat} (r:Room A (d+1)):Room A.in1 d:=⟨r.hh,by have:=r.depth;simp only [Around.in1_depth];exact o4 this,by have:=r.units;simp only [Around.in1_units];exact o5 this⟩
noncomputable def Gp:List (Str × Value):=[("len",.builtin "len"),("range",.type "range"),("isinstance",.builtin "isinstance"),("list",.type "list"),("tuple",.type "tuple"),("int",.type "int"),("bool",.type "bool"),("str",.type "str"),
  ("zip",.type "zip"),("enumerate",.type "enumerate"),("sorted",.builtin "sorted"),("min",.builtin "min"),("max",.builtin "max"),("abs",.builtin "abs"),("set",.type "set")]
structure Names where
  funs:List (Str × Nat)
  clss:List (Str × Nat)
  globs:List (Str × Nat)
  attrs:List (Str × Nat)
  meths:List (Str × Nat)
noncomputable def Bs (sc:Scope) (x:Str):Bool:=decide (sc.names.lookup x=some .globalImplicit) && !(x == ("__debug__":Str))
noncomputable def Vt (sc:Scope) (ns:List (Option Str)) (i:Nat) (x:Str):Bool :=
  (decide (sc.names.lookup x=some .local) || (decide (sc.names.lookup x=some .cell) || decide (sc.names.lookup x=some .free))) && (decide (ns[i]?=some (some x)) && (!(x == ("__debug__":Str)) && !(x == ("__classdict__":Str))))
noncomputable def Fm (sc:Scope) (ns:List (Option Str)) (i:Nat) (x:Str):Bool :=
  (decide (sc.names.lookup x=some .local) || decide (sc.names.lookup x=some .cell)) && decide (ns[i]?=some (some x))
noncomputable def Dz (l:List (Str × Nat)) (x:Str) (k:Nat):Bool:=decide (l.lookup x=some k)
noncomputable def bOp:BOp -> Operator
  | .add=>.Add
  | .sub=>.Sub
  | .mul=>.Mult
  | .fdiv=>.FloorDiv
  | .mod=>.Mod
noncomputable def Ae3 (b:BOp) (o:Operator):Bool:=decide (bOp b=o)
noncomputable def Iz:COp -> CmpOp
  | .eq=>.Eq
  | .ne=>.NotEq
  | .lt=>.Lt
  | .le=>.LtE
  | .gt=>.Gt
  | .ge=>.GtE
  | .is=>.Is
  | .isNot=>.IsNot
  | .isin=>.In
  | .notin=>.NotIn
noncomputable def Cn:Expr -> Bool
  | .Call (.Name x _) _ _ _=>!(x == ("super":Str))
  | _=>true
noncomputable def Ed:Expr -> Bool
  | .Set ..=>false
  | _=>true
noncomputable def Gq:BF -> Str × Nat
  | .len=>("len",1)
  | .range=>("range",1)
  | .list=>("list",1)
  | .sorted=>("sorted",1)
  | .max2=>("max",2)
  | .sortedSet=>("",0)
noncomputable def Hd:BM -> Str × Nat
  | .append=>("append",1)
  | .pop=>("pop",0)
  | .get2=>("get",2)
  | .rstrip=>("rstrip",0)
noncomputable def Mf:Ty -> Str
  | .int=>"int"
  | .bool=>"bool"
  | .str=>"str"
  | .tuple=>"tuple"
  | .list=>"list"
  | .cls _=>""
noncomputable def D0 (csc:Scope) (ns:List (Option Str)):List (Option Str):=ns.map fun o=>o.bind fun y=>if csc.names.lookup y=some .free then some y else none
noncomputable def Ji (sc csc:Scope) (x:Str):Bool :=
  decide (csc.kind=.function) && ((decide (csc.names.lookup x=some .local) || decide (csc.names.lookup x=some .cell)) &&
  csc.names.all fun p=>decide (csc.names.lookup p.1=some p.2) && (!decide (p.2=.free) || (decide (sc.names.lookup p.1=some .cell) || decide (sc.names.lookup p.1=some .free))))
noncomputable def Mg (e:Expr):Option { p:Const × Nat × Pos // e=.Constant p.1 p.2.1 p.2.2 }:=match e with
  | .Constant c k pos=>some ⟨(c,k,pos),rfl⟩
  | _=>none
noncomputable def Ky (e:Expr):Option { p:Str × Pos // e=.Name p.1 p.2 }:=match e with
  | .Name x pos=>some ⟨(x,pos),rfl⟩
  | _=>none
noncomputable def Ao2 (e:Expr):Option { p:Expr × Operator × Expr × Pos // e=.BinOp p.1 p.2.1 p.2.2.1 p.2.2.2 }:=match e with
  | .BinOp l o r pos=>some ⟨(l,o,r,pos),rfl⟩
  | _=>none
noncomputable def dUn (e:Expr):Option { p:UnaryOp × Expr × Pos // e=.UnaryOp p.1 p.2.1 p.2.2 }:=match e with
  | .UnaryOp o x pos=>some ⟨(o,x,pos),rfl⟩
  | _=>none
noncomputable def Adg (e:Expr):Option { p:BoolOp × List Expr × Pos // e=.BoolOp p.1 p.2.1 p.2.2 }:=match e with
  | .BoolOp o xs pos=>some ⟨(o,xs,pos),rfl⟩
  | _=>none
noncomputable def Ah5 (e:Expr):Option { p:Expr × List CmpOp × List Expr × Pos // e=.Compare p.1 p.2.1 p.2.2.1 p.2.2.2 }:=match e with
  | .Compare l os rs pos=>some ⟨(l,os,rs,pos),rfl⟩
  | _=>none
noncomputable def Ah6 (e:Expr):Option { p:Expr × Expr × Pos // e=.Subscript p.1 p.2.1 p.2.2 }:=match e with
  | .Subscript v s pos=>some ⟨(v,s,pos),rfl⟩
  | _=>none
noncomputable def Ah7 (e:Expr):Option { p:List Expr × Nat × Pos // e=.Tuple p.1 p.2.1 p.2.2 }:=match e with
  | .Tuple xs k pos=>some ⟨(xs,k,pos),rfl⟩
  | _=>none
noncomputable def Aft (e:Expr):Option { p:List Expr × Pos // e=.List p.1 p.2 }:=match e with
  | .List xs pos=>some ⟨(xs,pos),rfl⟩
  | _=>none
noncomputable def Afu (e:Expr):Option { p:List (Option Expr) × List Expr × Pos // e=.Dict p.1 p.2.1 p.2.2 }:=match e with
  | .Dict ks vs pos=>some ⟨(ks,vs,pos),rfl⟩
  | _=>none
noncomputable def Zt (e:Expr):Option { p:Expr × Str × Pos // e=.Attribute p.1 p.2.1 p.2.2 }:=match e with
  | .Attribute v y pos=>some ⟨(v,y,pos),rfl⟩
  | _=>none
noncomputable def Adh (e:Expr):Option { p:Expr × List Expr × List Keyword × Pos // e=.Call p.1 p.2.1 p.2.2.1 p.2.2.2 }:=match e with
  | .Call f xs ks pos=>some ⟨(f,xs,ks,pos),rfl⟩
  | _=>none
noncomputable def Afv (e:Expr):Option { p:Expr × List Comprehension × Scope × Pos // e=.ListComp p.1 p.2.1 p.2.2.1 p.2.2.2 }:=match e with
  | .ListComp el gs csc pos=>some ⟨(el,gs,csc,pos),rfl⟩
  | _=>none
noncomputable def Afw (c:Const):Option { _p:Unit // c=.none }:=match c with
  | .none=>some ⟨(),rfl⟩
  | _=>none
noncomputable def Afx (c:Const):Option { b:Bool // c=.bool b }:=match c with
  | .bool b=>some ⟨b,rfl⟩
  | _=>none
noncomputable def Ao3 (c:Const):Option { b:Int // c=.int b }:=match c with
  | .int b=>some ⟨b,rfl⟩
  | _=>none
noncomputable def Ah8 (c:Const):Option { b:Str // c=.str b }:=match c with
  | .str b=>some ⟨b,rfl⟩
  | _=>none
noncomputable def Adi (o:UnaryOp):Option { _p:Unit // o=.USub }:=match o with
  | .USub=>some ⟨(),rfl⟩
  | _=>none
noncomputable def Zu (o:UnaryOp):Option { _p:Unit // o=.Not }:=match o with
  | .Not=>some ⟨(),rfl⟩
  | _=>none
noncomputable def Afy (o:BoolOp):Option { _p:Unit // o=.And }:=match o with
  | .And=>some ⟨(),rfl⟩
  | _=>none
noncomputable def Ao4 (o:BoolOp):Option { _p:Unit // o=.Or }:=match o with
  | .Or=>some ⟨(),rfl⟩
  | _=>none
noncomputable def one {α:Type} (xs:List α):Option { x:α // xs=[x] }:=match xs with
  | [x]=>some ⟨x,rfl⟩
  | _=>none
noncomputable def two {α:Type} (xs:List α):Option { p:α × α // xs=[p.1,p.2] }:=match xs with
  | [x,y]=>some ⟨(x,y),rfl⟩
  | _=>none
noncomputable def more (xs:List Expr):Option { p:Expr × Expr × List Expr // xs=p.1 :: p.2.1 :: p.2.2 }:=match xs with
  | x :: y :: r=>some ⟨(x,y,r),rfl⟩
  | _=>none
noncomputable def Ac2 {α:Type} (xs:List α):Option { _p:Unit // xs=[] }:=match xs with
  | []=>some ⟨(),rfl⟩
  | _ :: _=>none
noncomputable def Afz {α:Type} (o:Option α):Option { _p:Unit // o=none }:=match o with
  | none=>some ⟨(),rfl⟩
  | some _=>none
noncomputable def Kc (e:Expr):Option { p:Str × Pos × List Expr × Pos // e=.Call (.Name p.1 p.2.1) p.2.2.1 [] p.2.2.2 }:=match Adh e with
  | some ⟨(f,xs,ks,pos),h⟩=>(match Ac2 ks,Ky f with
    | some ⟨_,hk⟩,some ⟨(x,np),hn⟩=>some ⟨(x,np,xs,pos),h.trans (by dsimp only at hk hn ⊢;rw [hk,hn])⟩
    | _,_=>none)
  | none=>none
noncomputable def Yg (e:Expr):Option { p:Expr × Str × Pos × List Expr × Pos // e=.Call (.Attribute p.1 p.2.1 p.2.2.1) p.2.2.2.1 [] p.2.2.2.2 /\ (p.2.2.1.endLine == p.2.2.2.2.line)=true }:=match Adh e with
  | some ⟨(f,xs,ks,pos),h⟩=>(match Ac2 ks,Zt f with
    | some ⟨_,hk⟩,some ⟨(o,y,apos),hn⟩=>if hl:(apos.endLine == pos.line)=true then some ⟨(o,y,apos,xs,pos),h.trans (by dsimp only at hk hn ⊢;rw [hk,hn]),hl⟩ else none
    | _,_=>none)
  | none=>none
noncomputable def Ao5 (gs:List Comprehension):Option { p:Str × Pos × Expr × List Expr // gs=[⟨.Name p.1 p.2.1,p.2.2.1,p.2.2.2,0⟩] }:=match one gs with
  | some ⟨⟨t,i,ifs,as⟩,h⟩=>(match Ky t with
    | some ⟨(x,px),hn⟩=>if ha:as=0 then some ⟨(x,px,i,ifs),h.trans (by dsimp only at hn ⊢;rw [hn,ha])⟩ else none
    | none=>none)
  | none=>none
noncomputable def Ah9 (N:Names) (y:Str):Ty -> Bool
  | .cls c=>Dz N.clss y c
  | t=>decide (Mf t=y)
noncomputable def seen {α:Type} (o:Option α) (f:α -> Bool):Bool:=match o with
  | some a=>f a
  | none=>false
theorem Ab {α:Type} {o:Option α} {f:α -> Bool} (h:seen o f=true):∃ a,f a=true:=by
  cases o with
  | none=>exact Am h
  | some a=>exact ⟨a,h⟩
theorem Zv {P:Prop} {o:Option { _p:Unit // P }} (h:o.isSome=true):P:=by
  cases o with
  | none=>exact Am h
  | some a=>exact a.2
theorem an1 {a b:Bool} (h:(a && b)=true):a=true:=by
  cases a with
  | true=>rfl
  | false=>exact Am h
theorem an2 {a b:Bool} (h:(a && b)=true):b=true:=by
  cases a with
  | true=>exact h
  | false=>exact Am h
theorem Rv {p q:Prop} [Decidable p] [Decidable q] (h:(decide p || decide q)=true):p \/ q:=((Bool.or_eq_true _ _).mp h).imp of_decide_eq_true of_decide_eq_true
theorem not_not {b:Bool} (h:(!b)=true):b=false:=(Bool.not_eq_true' b).mp h
mutual
noncomputable def ck (N:Names) (sc:Scope) (ns:List (Option Str)) (m:ME) (e:Expr):Bool :=
  match m with
  | .none=>(seen (Mg e) fun p1=>(Afw p1.1.1).isSome)
  | .bool b=>(seen (Mg e) fun p1=>(seen (Afx p1.1.1) fun p2=>b == p2.1))
  | .int i=>(seen (Mg e) fun p1=>(seen (Ao3 p1.1.1) fun p2=>decide (i=p2.1)))
  | .str s=>(seen (Mg e) fun p1=>(seen (Ah8 p1.1.1) fun p2=>decide (s=p2.1) && decide (s.length <= 1000)))
  | .glob k=>(seen (Ky e) fun p1=>Bs sc p1.1.1 && Dz N.globs p1.1.1 k)
  | .var i=>(seen (Ky e) fun p1=>Vt sc ns i p1.1.1)
  | .bin op a b=>(seen (Ao2 e) fun p1=>Ae3 op p1.1.2.1 && ck N sc ns a p1.1.1 && ck N sc ns b p1.1.2.2.1)
  | .neg a=>(seen (dUn e) fun p1=>(Adi p1.1.1).isSome && ck N sc ns a p1.1.2.1)
  | .not a=>(seen (dUn e) fun p1=>(Zu p1.1.1).isSome && ck N sc ns a p1.1.2.1)
  | .and a b=>(seen (Adg e) fun p1=>(Afy p1.1.1).isSome && (seen (more p1.1.2.1) fun p2=>ck N sc ns a p2.1.1 && (match p2.1.2.2 with
        | []=>ck N sc ns b p2.1.2.1
        | _ :: _=>ck N sc ns b (.BoolOp .And (p2.1.2.1 :: p2.1.2.2) p1.1.2.2))))
  | .or a b=>(seen (Adg e) fun p1=>(Ao4 p1.1.1).isSome && (seen (more p1.1.2.1) fun p2=>ck N sc ns a p2.1.1 && (match p2.1.2.2 with
        | []=>ck N sc ns b p2.1.2.1
        | _ :: _=>ck N sc ns b (.BoolOp .Or (p2.1.2.1 :: p2.1.2.2) p1.1.2.2))))
  | .cmp op a b=>(seen (Ah5 e) fun p1=>decide (p1.1.2.1=[Iz op]) && (seen (one p1.1.2.2.1) fun p2=>ck N sc ns a p1.1.1 && ck N sc ns b p2.1 && Ed p2.1))
  | .cmp2 op1 op2 a b c=>(seen (Ah5 e) fun p1=>decide (p1.1.2.1=[Iz op1,Iz op2]) && (seen (two p1.1.2.2.1) fun p2=>ck N sc ns a p1.1.1 && ck N sc ns b p2.1.1 && ck N sc ns c p2.1.2 && Ed p2.1.2))
  | .sub a i=>(seen (Ah6 e) fun p1=>ck N sc ns a p1.1.1 && ck N sc ns i p1.1.2.1)
  | .tup es=>(seen (Ah7 e) fun p1=>ckEs N sc ns es p1.1.1 && decide (p1.1.1.length <= 1000))
  | .list es=>(seen (Aft e) fun p1=>ckEs N sc ns es p1.1.1 && decide (p1.1.1.length <= 1000))
  | .dict=>(seen (Afu e) fun p1=>p1.1.1.isEmpty && p1.1.2.1.isEmpty)
  | .attr a n=>(seen (Zt e) fun p1=>ck N sc ns a p1.1.1 && Dz N.attrs p1.1.2.1 n && Cn p1.1.1)
  | .call f es=>(seen (Kc e) fun p1=>Bs sc p1.1.1 && Dz N.funs p1.1.1 f && ckEs N sc ns es p1.1.2.2.1 && decide (p1.1.2.2.1.length <= 20))
  | .new c es=>(seen (Kc e) fun p1=>Bs sc p1.1.1 && Dz N.clss p1.1.1 c && ckEs N sc ns es p1.1.2.2.1 && decide (p1.1.2.2.1.length <= 20))
  | .umeth a m es=>(seen (Yg e) fun p1=>ck N sc ns a p1.1.1 && Dz N.meths p1.1.2.1 m && ckEs N sc ns es p1.1.2.2.2.1 && decide (p1.1.2.2.2.1.length <= 20) && Cn p1.1.1)
  | .bf f es=>(seen (Kc e) fun p1=>Bs sc p1.1.1 && decide ((Gq f).1=p1.1.1) && decide ((Gq f).2=p1.1.2.2.1.length) && ckEs N sc ns es p1.1.2.2.1)
  | .bm a m es=>(seen (Yg e) fun p1=>ck N sc ns a p1.1.1 && decide ((Hd m).1=p1.1.2.1) && decide ((Hd m).2=p1.1.2.2.2.1.length) && ckEs N sc ns es p1.1.2.2.2.1 && Cn p1.1.1)
  | .isinst a t=>(seen (Kc e) fun p1=>(seen (two p1.1.2.2.1) fun p2=>(seen (Ky p2.1.2) fun p3=>Bs sc p1.1.1 && decide (p1.1.1=("isinstance":Str)) && Bs sc p3.1.1 && ck N sc ns a p2.1.1 && Ah9 N p3.1.1 t)))
  | .comp elt it cond=>(seen (Afv e) fun p1=>(seen (Ao5 p1.1.2.1) fun p2=>ck N sc ns it p2.1.2.2.1 && Ed p2.1.2.2.1 && Ji sc p1.1.2.2.1 p2.1.1 && ck N p1.1.2.2.1 (D0 p1.1.2.2.1 ns++[some p2.1.1]) elt p1.1.1 && ckC N p1.1.2.2.1 (D0 p1.1.2.2.1 ns++[some p2.1.1]) cond p2.1.2.2.2))
noncomputable def ckO (N:Names) (sc:Scope) (ns:List (Option Str)):MEo -> Option Expr -> Bool
  | .none,none=>true
  | .some e,some x=>ck N sc ns e x
  | _,_=>false
noncomputable def ckC (N:Names) (sc:Scope) (ns:List (Option Str)):MEo -> List Expr -> Bool
  | .none,[]=>true
  | .some e,[x]=>ck N sc ns e x
  | _,_=>false
noncomputable def ckEs (N:Names) (sc:Scope) (ns:List (Option Str)):MEs -> List Expr -> Bool
  | .nil,[]=>true
  | .cons e es,x :: xs=>ck N sc ns e x && ckEs N sc ns es xs
  | _,_=>false
end
noncomputable def Adk (st:Stmt):Option { p:Expr × Pos // st=.Expr p.1 p.2 }:=match st with
  | .Expr x pos=>some ⟨(x,pos),rfl⟩
  | _=>none
noncomputable def Af0 (st:Stmt):Option { p:Expr × Expr × Pos // st=.Assign [p.1] p.2.1 p.2.2 }:=match st with
  | .Assign ts x pos=>(match one ts with
    | some ⟨t,h⟩=>some ⟨(t,x,pos),by dsimp only;rw [h]⟩
    | none=>none)
  | _=>none
noncomputable def Adl (st:Stmt):Option { p:Str × Pos × Expr × Pos // st=.Assign [.Name p.1 p.2.1] p.2.2.1 p.2.2.2 }:=match Af0 st with
  | some ⟨(t,x,pos),h⟩=>(match Ky t with
    | some ⟨(y,py),hn⟩=>some ⟨(y,py,x,pos),h.trans (by dsimp only at hn ⊢;rw [hn])⟩
    | none=>none)
  | none=>none
noncomputable def Adm (st:Stmt):Option { p:Expr × Str × Pos × Expr × Pos // st=.Assign [.Attribute p.1 p.2.1 p.2.2.1] p.2.2.2.1 p.2.2.2.2 }:=match Af0 st with
  | some ⟨(t,x,pos),h⟩=>(match Zt t with
    | some ⟨(o,y,py),hn⟩=>some ⟨(o,y,py,x,pos),h.trans (by dsimp only at hn ⊢;rw [hn])⟩
    | none=>none)
  | none=>none
noncomputable def Adn (st:Stmt):Option { p:Expr × Expr × Pos × Expr × Pos // st=.Assign [.Subscript p.1 p.2.1 p.2.2.1] p.2.2.2.1 p.2.2.2.2 }:=match Af0 st with
  | some ⟨(t,x,pos),h⟩=>(match Ah6 t with
    | some ⟨(o,y,py),hn⟩=>some ⟨(o,y,py,x,pos),h.trans (by dsimp only at hn ⊢;rw [hn])⟩
    | none=>none)
  | none=>none
noncomputable def Af1 (st:Stmt):Option { p:Option Expr × Pos // st=.Return p.1 p.2 }:=match st with
  | .Return x pos=>some ⟨(x,pos),rfl⟩
  | _=>none
noncomputable def Ao6 (st:Stmt):Option { p:Expr × List Stmt × List Stmt × Pos // st=.If p.1 p.2.1 p.2.2.1 p.2.2.2 }:=match st with
  | .If x ts fs pos=>some ⟨(x,ts,fs,pos),rfl⟩
  | _=>none
noncomputable def Zw (st:Stmt):Option { p:Expr × List Stmt × Pos // st=.While p.1 p.2.1 [] p.2.2 }:=match st with
  | .While x ts fs pos=>(match Ac2 fs with
    | some ⟨_,h⟩=>some ⟨(x,ts,pos),by dsimp only;rw [h]⟩
    | none=>none)
  | _=>none
noncomputable def Aia (st:Stmt):Option { p:Expr × Expr × List Stmt × Pos // st=.For p.1 p.2.1 p.2.2.1 [] p.2.2.2 }:=match st with
  | .For t x ts fs pos=>(match Ac2 fs with
    | some ⟨_,h⟩=>some ⟨(t,x,ts,pos),by dsimp only;rw [h]⟩
    | none=>none)
  | _=>none
noncomputable def Ado (st:Stmt):Option { p:Str × Pos × Expr × List Stmt × Pos // st=.For (.Name p.1 p.2.1) p.2.2.1 p.2.2.2.1 [] p.2.2.2.2 }:=match Aia st with
  | some ⟨(t,x,ts,pos),h⟩=>(match Ky t with
    | some ⟨(y,py),hn⟩=>some ⟨(y,py,x,ts,pos),h.trans (by dsimp only at hn ⊢;rw [hn])⟩
    | none=>none)
  | none=>none
noncomputable def Af2 (t:Expr):Option { p:Str × Pos × Str × Pos × Nat × Pos // t=.Tuple [.Name p.1 p.2.1,.Name p.2.2.1 p.2.2.2.1] p.2.2.2.2.1 p.2.2.2.2.2 }:=match Ah7 t with
  | some ⟨(xs,k,pt),h⟩=>(match two xs with
    | some ⟨(a,b),h2⟩=>(match Ky a,Ky b with
      | some ⟨(y,py),h3⟩,some ⟨(z,pz),h4⟩=>some ⟨(y,py,z,pz,k,pt),h.trans (by dsimp only at h2 h3 h4 ⊢;rw [h2,h3,h4])⟩
      | _,_=>none)
    | none=>none)
  | none=>none
noncomputable def Adp (st:Stmt):Option { p:(Str × Pos × Str × Pos × Nat × Pos) × Expr × List Stmt × Pos // st=.For (.Tuple [.Name p.1.1 p.1.2.1,.Name p.1.2.2.1 p.1.2.2.2.1] p.1.2.2.2.2.1 p.1.2.2.2.2.2) p.2.1 p.2.2.1 [] p.2.2.2 }:=match Aia st with
  | some ⟨(t,x,ts,pos),h⟩=>(match Af2 t with
    | some ⟨q,hn⟩=>some ⟨(q,x,ts,pos),h.trans (by dsimp only;rw [hn])⟩
    | none=>none)
  | none=>none
noncomputable def Zx (e:Expr):Option { p:Str × Pos × Expr × Pos // e=.Call (.Name p.1 p.2.1) [p.2.2.1] [] p.2.2.2 }:=match Kc e with
  | some ⟨(f,fp,xs,cp),h⟩=>(match one xs with
    | some ⟨x,h2⟩=>some ⟨(f,fp,x,cp),h.trans (by dsimp only;rw [h2])⟩
    | none=>none)
  | none=>none
noncomputable def Zy (e:Expr):Option { p:Str × Pos × Expr × Expr × Pos // e=.Call (.Name p.1 p.2.1) [p.2.2.1,p.2.2.2.1] [] p.2.2.2.2 }:=match Kc e with
  | some ⟨(f,fp,xs,cp),h⟩=>(match two xs with
    | some ⟨(x,y),h2⟩=>some ⟨(f,fp,x,y,cp),h.trans (by dsimp only at h2 ⊢;rw [h2])⟩
    | none=>none)
  | none=>none
noncomputable def Zz (st:Stmt):Option { p:Str × Pos × Str × Nat × Pos × Pos × Pos // st=.Raise (some (.Call (.Name p.1 p.2.1) [.Constant (.str p.2.2.1) p.2.2.2.1 p.2.2.2.2.1] [] p.2.2.2.2.2.1)) none p.2.2.2.2.2.2 }:=match st with
  | .Raise (some e) o pos=>(match Afz o,Zx e with
    | some ⟨_,h1⟩,some ⟨(f,fp,x,cp),h2⟩=>(match Mg x with
      | some ⟨(c,k,mp),h3⟩=>(match Ah8 c with
        | some ⟨m,h4⟩=>some ⟨(f,fp,m,k,mp,cp,pos),by dsimp only at h2 h3 ⊢;rw [h1,h2,h3,h4]⟩
        | none=>none)
      | none=>none)
    | _,_=>none)
  | _=>none
noncomputable def Af3 (st:Stmt):Option { p:List Stmt × ExceptHandler × List ExceptHandler × Pos // st=.Try p.1 (p.2.1 :: p.2.2.1) [] [] p.2.2.2 }:=match st with
  | .Try ts hs a b pos=>(match hs,Ac2 a,Ac2 b with
    | h :: hx,some ⟨_,h1⟩,some ⟨_,h2⟩=>some ⟨(ts,h,hx,pos),by dsimp only;rw [h1,h2]⟩
    | _,_,_=>none)
  | _=>none
noncomputable def Rw:ME -> Bool
  | .comp ..=>false
  | _=>true
noncomputable def Rx (hd:ExceptHandler):Option { p:Str × Pos × Option Str × Stmt × List Stmt × Pos // hd=.ExceptHandler (some (.Name p.1 p.2.1)) p.2.2.1 (p.2.2.2.1 :: p.2.2.2.2.1) p.2.2.2.2.2 }:=match hd with
  | .ExceptHandler (some (.Name x xp)) y (t :: ts) pos=>some ⟨(x,xp,y,t,ts,pos),rfl⟩
  | _=>none
noncomputable def Yh (sc:Scope) (ns:List (Option Str)) (i:Option Nat) (y:Option Str):Bool:=match i with
  | none=>y.isNone
  | some i=>(match y with
    | some y=>Fm sc ns i y && decide (sc.names.lookup y=some .local)
    | none=>false)
mutual
noncomputable def ckS (N:Names) (sc:Scope) (ns:List (Option Str)) (m:MS) (st:Stmt):Bool :=
  match m with
  | .expr e=>(seen (Adk st) fun p1=>ck N sc ns e p1.1.1 && Rw e)
  | .assign i e=>(seen (Adl st) fun p1=>Fm sc ns i p1.1.1 && ck N sc ns e p1.1.2.2.1)
  | .setattr o n e=>(seen (Adm st) fun p1=>ck N sc ns e p1.1.2.2.2.1 && ck N sc ns o p1.1.1 && Dz N.attrs p1.1.2.1 n)
  | .setitem o i e=>(seen (Adn st) fun p1=>ck N sc ns e p1.1.2.2.2.1 && ck N sc ns o p1.1.1 && ck N sc ns i p1.1.2.1)
  | .ret e=>(seen (Af1 st) fun p1=>ckO N sc ns e p1.1.1)
  | .ite c t f=>(seen (Ao6 st) fun p1=>ck N sc ns c p1.1.1 && ckSs N sc ns t p1.1.2.1 && ckSs N sc ns f p1.1.2.2.1)
  | .loop c b=>(seen (Zw st) fun p1=>ck N sc ns c p1.1.1 && ckSs N sc ns b p1.1.2.1)
  | .each i it b=>(seen (Ado st) fun p1=>Fm sc ns i p1.1.1 && ck N sc ns it p1.1.2.2.1 && Ed p1.1.2.2.1 && ckSs N sc ns b p1.1.2.2.2.1)
  | .eachZip i j a b body=>(seen (Adp st) fun p1=>Fm sc ns i p1.1.1.1 && Fm sc ns j p1.1.1.2.2.1 && ckSs N sc ns body p1.1.2.2.1 && (seen (Zy p1.1.2.1) fun p2=>Bs sc p2.1.1 && decide (p2.1.1=("zip":Str)) && ck N sc ns a p2.1.2.2.1 && ck N sc ns b p2.1.2.2.2.1))
  | .raise c msg=>(seen (Zz st) fun p1=>Bs sc p1.1.1 && Dz N.clss p1.1.1 c && decide (p1.1.2.2.1=msg) && ckEs N sc ns (.cons (.str msg) .nil) [.Constant (.str p1.1.2.2.1) p1.1.2.2.2.1 p1.1.2.2.2.2.1])
  | .tryx b hs=>(seen (Af3 st) fun p1=>ckSs N sc ns b p1.1.1 && ckHs N sc ns hs (p1.1.2.1 :: p1.1.2.2.1))
noncomputable def ckSs (N:Names) (sc:Scope) (ns:List (Option Str)):MSs -> List Stmt -> Bool
  | .nil,[]=>true
  | .cons s ss,x :: xs=>ckS N sc ns s x && ckSs N sc ns ss xs
  | _,_=>false
noncomputable def ckHs (N:Names) (sc:Scope) (ns:List (Option Str)):MHs -> List ExceptHandler -> Bool
  | .nil,[]=>true
  | .cons c i b hs,hd :: hx=>(seen (Rx hd) fun p1=>Bs sc p1.1.1 && Dz N.clss p1.1.1 c && ckSs N sc ns b (p1.1.2.2.2.1 :: p1.1.2.2.2.2.1) && Yh sc ns i p1.1.2.2.1) && ckHs N sc ns hs hx
  | _,_=>false
end
noncomputable def Io:List (Option Str) -> Bool
  | []=>true
  | none :: r=>Io r
  | some x :: r=>!(r.contains (some x)) && Io r
noncomputable def ckF (N:Names) (f:MFun) (ns:List Str) (params:Arguments) (body:List Stmt) (sc:Scope):Bool :=
  decide (f.arity+f.nvars=ns.length) && (decide (ns.take f.arity=params.args.map (·.arg)) && (params.posonlyargs.isEmpty && (params.vararg.isNone && (params.kwonlyargs.isEmpty && (params.kwarg.isNone &&
  (Io (ns.map some) && (!sc.isCoroutine && (!sc.isGenerator && (decide (sc.kind=.function) && (ckSs N sc (ns.map some) f.body body &&
  ((sc.names.all fun p=>decide (sc.names.lookup p.1=some p.2) && !decide (p.2=.free)) &&
  (ns.take f.arity).all fun y=>decide (sc.names.lookup y=some .local) || decide (sc.names.lookup y=some .cell))))))))))))
section
variable {α β:Type} {cx:Cx} {A:Around} {P:Amb} {H:Hp} {ρ:Rho} {s:Shared} {t:Sem α} {V:β -> α -> Amb}
theorem At {b:β} (R:Rel cx H ρ s) (k:∀ (Q:α -> Shared -> Prop) (E:Value -> Shared -> Prop),(∀ a tk,(V b a).P ρ s.heap -> Q a { s with toks:=tk }) -> wpAny (model cx.prog cx.w) A t Q E s):Bf cx A (.ok b H) t V ρ s :=
  k _ _ fun a tk v=>⟨ρ,Full.refl _ _,R.toks tk,v⟩
theorem Rel.newList {xs:List Val} {vs:List Value} (tk:Nat) (R:Rel cx H ρ s) (r:VRs cx ρ s.heap xs vs) (z:xs.length <= sizeLine) :
    ∃ ρ',Full ρ s.heap ρ' (s.heap.push (Bq vs 0)) /\ Rel cx (H++[.list xs]) ρ' { s with heap:=s.heap.push (Bq vs 0),toks:=tk } /\ VR cx ρ' (s.heap.push (Bq vs 0)) (.loc H.length) (.ref s.heap.objs.size):=by
  have kp:∀ b o,s.heap.get? b=some o -> (s.heap.push (Bq vs 0)).get? b=some o:=fun b o e=>Heap.get?_push_of_some _ e
  obtain ⟨F,R'⟩:=R.alloc (tk:=tk) (o:=.list xs) (p:=(s.heap.objs.size,s.heap.objs.size)) kp ⟨Ao _,Ao _⟩
    (.list (n:=0) (Heap.get?_push_size _ rfl) (r.step (Full.alloc kp ⟨Ao _,Ao _⟩).step) z)
  refine ⟨_,F,R',?_⟩
  rw [R.len]
  exact VR.loc (p:=(s.heap.objs.size,s.heap.objs.size)) (by rw [List.getElem?_append_right (zI _)];simp)
end
theorem Ee:lid=sizeLine:=by skip;rfl
section
variable {cx:Cx} {A:Around} {P:Amb} {a b:Val} {v w:Value}
theorem Oy {x:Int} (h:small x=true):Builtin.Int.intBits x <= 64:=by
  unfold small at h
  simp only [Bool.and_eq_true,decide_eq_true_eq] at h
  exact intBits_le_64 h.1 h.2
theorem Rel.listAt {H:Hp} {ρ:Rho} {s:Shared} (R:Rel cx H ρ s) {l:Nat} {xs:List Val} {p:Addr × Addr} (hH:H[l]?=some (.list xs)) (hρ:ρ[l]?=some p) :
    ∃ vs n,p.2=p.1 /\ s.heap.get? p.1=some (Bq vs n) /\ VRs cx ρ s.heap xs vs /\ xs.length <= sizeLine:=by
  have:=R.objs l _ p hH hρ
  generalize ho:HObj.list xs=o at this
  cases this with
  | list e r z=>cases ho;exact ⟨_,_,rfl,e,r,z⟩
  | dict _ _ _=>cases ho
  | inst _ _ _ _ _ _ _ _ _ _=>cases ho
  | hid _=>cases ho
theorem VR.int_inv {ρ:Rho} {h:Heap} {i:Int} (x:VR cx ρ h (.int i) v):∃ t,v=.int i t:=by cases x;exact ⟨_,rfl⟩
theorem VR.str_inv {ρ:Rho} {h:Heap} {i:Str} (x:VR cx ρ h (.str i) v):∃ t,v=.str i t /\ i.length <= sizeLine:=by cases x;exact ⟨_,rfl,by assumption⟩
theorem VR.none_inv {ρ:Rho} {h:Heap} (x:VR cx ρ h .none v):v=.none:=by cases x;rfl
theorem VR.loc_inv {ρ:Rho} {h:Heap} {l:Nat} (x:VR cx ρ h (.loc l) v):∃ p,ρ[l]?=some p /\ v=.ref p.1:=by cases x;exact ⟨_,by assumption,rfl⟩
theorem VRs.nil_inv {ρ:Rho} {h:Heap} {vs:List Value} (x:VRs cx ρ h [] vs):vs=[]:=by cases x;rfl
theorem VRs.cons_inv {ρ:Rho} {h:Heap} {m:Val} {ms:List Val} {vs:List Value} (x:VRs cx ρ h (m :: ms) vs):∃ v vs',vs=v :: vs' /\ VR cx ρ h m v /\ VRs cx ρ h ms vs':=by cases x;exact ⟨_,_,rfl,by assumption,by assumption⟩
theorem VRs.one_inv {ρ:Rho} {h:Heap} {m:Val} {vs:List Value} (x:VRs cx ρ h [m] vs):∃ v,vs=[v] /\ VR cx ρ h m v:=by
  refine ex2 x.cons_inv fun v vs' zz=>An zz fun zr2 y z=>?_;subst zr2
  exact ⟨v,by rw [z.nil_inv],y⟩
theorem VRs.two_inv {ρ:Rho} {h:Heap} {m n:Val} {vs:List Value} (x:VRs cx ρ h [m,n] vs):∃ v w,vs=[v,w] /\ VR cx ρ h m v /\ VR cx ρ h n w:=by
  refine ex2 x.cons_inv fun v vs' zz=>An zz fun zr2 y z=>?_;subst zr2
  refine ex1 z.one_inv fun w zz=>Ac zz fun hr1 u=>?_;refine Eq.symm hr1▸?_
  exact ⟨v,w,rfl,y,u⟩
theorem Z0 {op:BOp} {o:Operator} (ho:Ae3 op o=true) (h1:∀ ρ h,P.P ρ h -> VR cx ρ h a v) (h2:∀ ρ h,P.P ρ h -> VR cx ρ h b w):Sim cx A P (binaryOp o v w) (Ac1 op a b) (Amb.vr cx):=by
  intro H ρ s R p
  have x1:=h1 _ _ p
  have x2:=h2 _ _ p
  clear h1 h2 p
  have ho':bOp op=o:=of_decide_eq_true ho
  subst ho'
  clear ho
  cases op with
  | add =>
    cases a with
    | int i =>
      cases b with
      | int j =>
        obtain ⟨_,rfl⟩:=x1.int_inv
        obtain ⟨_,rfl⟩:=x2.int_inv
        exact At R fun Q E k=>PyProof.Rows.add_int (k _ _ (.int _ _))
      | _=>trivial
    | str x =>
      cases b with
      | str y =>
        refine ex1 x1.str_inv fun _ zz=>Ac zz fun zr1 _=>?_;subst zr1
        refine ex1 x2.str_inv fun _ zz=>Ac zz fun hr3 _=>?_;refine Eq.symm hr3▸?_
        show Bf cx A ((if x.length+y.length <= lid then M.ret (Val.str (x++y)) else M.bad) H) _ _ ρ s
        by_cases q:x.length+y.length <= lid
        · rw [if_pos q]
          rw [Ee] at q
          exact At R fun Q E k=>PyProof.Rows.add_str (fun t' tk=>k _ _ (.str _ _ (by rw [strLen_append];exact q))) q
        · rw [if_neg q];trivial
      | _=>trivial
    | _=>trivial
  | sub =>
    cases a with
    | int i =>
      cases b with
      | int j =>
        obtain ⟨_,rfl⟩:=x1.int_inv
        obtain ⟨_,rfl⟩:=x2.int_inv
        exact At R fun Q E k=>PyProof.Rows.sub_int (k _ _ (.int _ _))
      | _=>trivial
    | _=>trivial
  | mul =>
    cases a with
    | int i =>
      cases b with
      | int j =>
        obtain ⟨_,rfl⟩:=x1.int_inv
        obtain ⟨_,rfl⟩:=x2.int_inv
        show Bf cx A ((if (small i || small j)=true then M.ret (Val.int (i * j)) else M.bad) H) _ _ ρ s
        by_cases q:(small i || small j)=true
        · rw [if_pos q]
          refine At R fun Q E k=>PyProof.Rows.mul_int (k _ _ (.int _ _)) ?_
          rcases (Bool.or_eq_true _ _).mp q with q | q
          · exact IntMulOk.of_left (Oy q)
          · exact IntMulOk.of_right (Oy q)
        · rw [if_neg q];trivial
      | _=>trivial
    | _=>trivial
  | fdiv =>
    cases a with
    | int i =>
      cases b with
      | int j =>
        obtain ⟨_,rfl⟩:=x1.int_inv
        obtain ⟨_,rfl⟩:=x2.int_inv
        show Bf cx A ((if j=0 \/ 1073741824 <= j.natAbs then M.bad else M.ret (Val.int (Int.fdiv i j))) H) _ _ ρ s
        by_cases q:j=0 \/ 1073741824 <= j.natAbs
        · rw [if_pos q];trivial
        · rw [if_neg q]
          exact At R fun Q E k=>PyProof.Rows.floordiv_int (fun e=>q (.inl e)) (k _ _ (.int _ _)) (.inl (PyProof.noPylong_small (by exact o6 q)))
      | _=>trivial
    | _=>trivial
  | mod =>
    cases a with
    | int i =>
      cases b with
      | int j =>
        obtain ⟨_,rfl⟩:=x1.int_inv
        obtain ⟨_,rfl⟩:=x2.int_inv
        show Bf cx A ((if j=0 then M.bad else M.ret (Val.int (Int.fmod i j))) H) _ _ ρ s
        by_cases q:j=0
        · rw [if_pos q];trivial
        · rw [if_neg q]
          exact At R fun Q E k=>PyProof.Rows.mod_int' q (k _ _ (.int _ _))
      | _=>trivial
    | _=>trivial
end
structure FnOk (cx:Cx) (N:Names) (a:Addr) (f:MFun):Prop where
  is:∃ o fd body ns,cx.h₀.get? a=some o /\ o.cls=.type "function" /\ o.data=.func fd /\ cx.h₀.CodeRec fd.code fd.qualname /\ fd.body=.stmts body /\ fd.closure=[] /\ fd.globals=mainGlobals /\ fd.builtins=builtinsNs /\
    fd.defaults=.none /\ fd.kwdefaults=.none /\ ckF N f ns fd.params body fd.scope=true
structure ClsOk (cx:Cx) (N:Names) (c:Nat) (C:Addr):Prop where
  is:∃ nm q Nn bs sn sub col dd k0 k1 k2 k3 k5 mN,cx.h₀.get? C=some (excClassObj nm q C Nn bs [.type "object"] true sn sub false col dd k0 k1 k2 k3 k5 "object.__new__") /\ cx.h₀.Ns Nn mN /\
    mN "__getattribute__"=none /\ mN "__getattr__"=none /\ mN "__setattr__"=none /\
    (∀ (n:Nat) (y:Str),cx.attrs[n]?=some y -> mN y=none /\ typeLookup (.type "object") y=pure none) /\
    (∀ (y:Str) (m k:Nat),N.meths.lookup y=some m -> cx.T.meth c m=some k -> ∃ fa o fd,cx.fns[k]?=some fa /\ mN y=some (.ref fa) /\ cx.h₀.get? fa=some o /\ o.cls=.type "function" /\ o.data=.func fd /\ (∀ n:Nat,cx.attrs[n]?≠some y) /\ ∃ r,typeLookup (.type "object") y=pure r)
structure ClsBase (cx:Cx) (N:Names):Prop where
  attr:∀ (y:Str) (n:Nat),N.attrs.lookup y=some n -> cx.attrs[n]?=some y
  inj:∀ (i j:Nat) (y:Str),cx.attrs[i]?=some y -> cx.attrs[j]?=some y -> i=j
  few:cx.attrs.length <= sizeLine
  init:N.meths.lookup ("__init__":Str)=some 0
  ref:∀ (c:Nat) (v:Value),cx.cls[c]?=some v -> (cx.T.meth c 0).isSome=true -> ∃ C,v=.ref C
  cls:∀ (c:Nat) (C:Addr),cx.cls[c]?=some (.ref C) -> (cx.T.meth c 0).isSome=true -> ClsOk cx N c C
noncomputable def Af4:List Value:=[.type "ValueError",.type "Exception",.type "BaseException",.type "object"]
structure ExcOk (cx:Cx) (c:Nat) (C:Addr):Prop where
  is:∃ nm q Nn bs bm hdct sn sub ab col dd k0 k1 k2 k3 k5 mN,cx.h₀.get? C=some (excClassObj nm q C Nn bs bm hdct sn sub ab col dd k0 k1 k2 k3 k5 "ValueError.__new__") /\ cx.h₀.Ns Nn mN /\ mN "__init__"=none /\ OwnTail cx.h₀ Af4 bm /\
    ∀ (d:Nat) (D:Value),cx.cls[d]?=some D -> cx.T.sub c d=(Value.ref C :: bm).contains D
  isi:∃ K:PySem.W.Frag,K.In cx.h₀ /\ ExcK K C /\ ∀ (d:Nat) (D:Value),cx.cls[d]?=some D -> Ow K D=true /\ PySem.W.mroIn K C D=some (cx.T.sub c d)
structure Base (cx:Cx) (N:Names):Prop where
  ns:∃ mg mb,cx.h₀.Ns mainGlobals mg /\ cx.h₀.Ns builtinsNs mb /\
    (∀ x k,N.funs.lookup x=some k -> ∃ a,cx.fns[k]?=some a /\ mg x=some (.ref a)) /\
    (∀ x k,N.globs.lookup x=some k -> ∃ v val,cx.T.globs[k]?=some v /\ mg x=some val /\ ∀ ρ h,VR cx ρ h v val) /\
    (∀ x c,N.clss.lookup x=some c -> ∃ C,cx.cls[c]?=some C /\ (mg x=some C \/ (mg x=none /\ mb x=some C))) /\
    (∀ p∈Gp,mg p.1=none /\ mb p.1=some p.2)
  lim:cx.h₀.NoLimit
  fns:∀ (k:Nat) (a:Addr) (f:MFun),cx.fns[k]?=some a -> cx.T.funs[k]?=some f -> FnOk cx N a f
  cls:ClsBase cx N
  exc:∀ c:Nat,cx.T.isExc c=true -> ∃ C,cx.cls[c]?=some (.ref C) /\ ExcOk cx c C
theorem Co {l:List (Str × Nat)} {x:Str} {k:Nat} (h:Dz l x k=true):l.lookup x=some k:=of_decide_eq_true h
theorem Ry {sc:Scope} {x:Str} (h:Bs sc x=true):sc.names.lookup x=some .globalImplicit /\ (x == ("__debug__":Str))=false:=⟨of_decide_eq_true (an1 h),not_not (an2 h)⟩
theorem Vu {sc:Scope} {ns:List (Option Str)} {i:Nat} {x:Str} (h:Vt sc ns i x=true) :
    (sc.names.lookup x=some .local \/ sc.names.lookup x=some .cell \/ sc.names.lookup x=some .free) /\ ns[i]?=some (some x) /\ (x == ("__debug__":Str))=false /\ (x == ("__classdict__":Str))=false :=
  ⟨((Bool.or_eq_true _ _).mp (an1 h)).imp of_decide_eq_true Rv,of_decide_eq_true (an1 (an2 h)),not_not (an1 (an2 (an2 h))),not_not (an2 (an2 (an2 h)))⟩
section
variable {cx:Cx} {N:Names} {A:Around} {env:Env} {sc:Scope} {ns:List (Option Str)} {Γ:Env'}
theorem Rz {i:Nat} {x:Str} {pos:Pos} (hv:Vt sc ns i x=true) (Φ:Funs):Sim cx A (Amb.env cx env sc ns Γ) (eval (.Name x pos) env) (Ak cx.T Φ (.var i) Γ) (Amb.vr cx):=by
  refine Af fun G kG=>?_
  refine Cm (Vu hv) fun _ hn hd hc=>?_
  refine kG ?_
  intro H ρ s R p
  rw [Ac5]
  cases e:Γ[i]? with
  | none=>trivial
  | some o =>
    cases o with
    | none=>trivial
    | some mv =>
      refine ex1 (p.vals i x mv hn e) fun v zz=>Ac zz fun q r=>?_
      refine At R fun Q E k=>?_
      have k':=k v s.toks r
      rcases q with ⟨kd,m,hm,hv⟩ | ⟨kd,c,hc',hv⟩
      · exact wpAny_Name (wpAny_loadName_local p.st.fn kd hm hv k') hd
      · rcases kd with kd | kd
        · exact wpAny_Name (wpAny_loadName_cell p.st.fn kd hc' hv k') hd
        · exact wpAny_Name (wpAny_loadName_free p.st.fn kd hc' hv k' hc) hd
theorem wp_glob {ρ:Rho} {s:Shared} {H:Hp} {x:Str} {pos:Pos} {mg mb:Str -> Option Value} {v:Value} {Q:Value -> Shared -> Prop} {E:Value -> Shared -> Prop} (R:Rel cx H ρ s) (p:EnvSt cx env sc ρ s.heap) (hg:Bs sc x=true)
    (ng:cx.h₀.Ns mainGlobals mg) (nb:cx.h₀.Ns builtinsNs mb) (hv:mg x=some v \/ (mg x=none /\ mb x=some v)) (h:Q v s):wpAny (model cx.prog cx.w) A (eval (.Name x pos) env) Q E s:=by
  obtain ⟨h1,h2⟩:=Ry hg
  have kd:env.kindOf x=some .globalImplicit:=p.kinds x _ h1
  have ng':s.heap.Ns env.globals mg:=by rw [p.glob];exact ng.keeps R.base
  have nb':s.heap.Ns env.builtins mb:=by rw [p.blt];exact nb.keeps R.base
  refine Calls.Name_function_global p.fn kd ?_ h2
  rcases hv with hv | ⟨h0,hv⟩
  · exact Calls.loadGlobal_global ng' hv h
  · exact Calls.loadGlobal_builtin ng' h0 nb' hv h
theorem Vv (B:Base cx N) {k:Nat} {x:Str} {pos:Pos} (hg:Bs sc x=true) (hk:Dz N.globs x k=true) (Φ:Funs):Sim cx A (Amb.env cx env sc ns Γ) (eval (.Name x pos) env) (Ak cx.T Φ (.glob k) Γ) (Amb.vr cx):=by
  refine Af fun G kG=>?_
  refine ex2 B.ns fun mg mb zz=>Fo zz fun ng nb _ q _=>?_
  refine ex2 (q x k (Co hk)) fun v val zz=>An zz fun e1 e2 r=>?_
  refine kG ?_
  intro H ρ s R p
  rw [Zo,e1]
  exact At R fun Q E k=>wp_glob R p.st hg ng nb (.inl e2) (k _ s.toks (r _ _))
theorem Qa {a:Val} {v:Value} {P:Amb} (h:∀ ρ h,P.P ρ h -> VR cx ρ h a v):Sim cx A P (truthy v) (C1 a) (fun b b'=>Amb.prop (b'=b)):=by
  intro H ρ s R p
  have x:=h _ _ p
  cases x with
  | bool b=>exact At R fun Q E k=>wpAny_truthy_bool (k _ s.toks rfl)
  | _=>trivial
theorem Z1 {a:Val} {v:Value} {P:Amb} (h:∀ ρ h,P.P ρ h -> VR cx ρ h a v):Sim cx A P (unaryOp .USub v) (match a with | .int i=>M.ret (Val.int (-i)) | _=>.bad) (Amb.vr cx):=by
  intro H ρ s R p
  have x:=h _ _ p
  cases x with
  | int i t=>exact At R fun Q E k=>PyProof.Rows.neg_int (k _ _ (.int _ _))
  | _=>trivial
theorem Z2 {a:Val} {v:Value} {P:Amb} (h:∀ ρ h,P.P ρ h -> VR cx ρ h a v):Sim cx A P (unaryOp .Not v) ((C1 a).bnd fun b=>M.ret (Val.bool (!b))) (Amb.vr cx):=by
  intro H ρ s R p
  have x:=h _ _ p
  cases x with
  | bool b=>exact At R fun Q E k=>not_value (wpAny_truthy_bool (k _ s.toks (.bool _)))
  | _=>trivial
end
section
variable {cx:Cx} {H:Hp} {ρ:Rho} {s:Shared}
theorem Hw {n:Nat} {f:Val -> Option PyData} (ih:∀ {m:Val} {v:Value} {d:PyData},VR cx ρ s.heap m v -> f m=some d -> (∃ as,Reads s.heap v d as) /\ d.canLay0=true /\ d.depth <= n) :
    ∀ {xs:List Val} {vs:List Value} {ds:List PyData},VRs cx ρ s.heap xs vs -> I1 f xs=some ds -> (∃ as,ReadsAll s.heap vs ds as) /\ PyData.canLayAll0 ds=true /\ PyData.depthAll ds <= n:=by
  intro xs
  induction xs with
  | nil =>
    intro vs ds r h
    cases r
    cases h
    exact ⟨⟨_,.nil⟩,rfl,Nat.zero_le _⟩
  | cons x xs hi =>
    intro vs ds r h
    cases r with
    | cons a r =>
      refine Rp (C:=fun ds=>(∃ as,ReadsAll s.heap _ ds as) /\ PyData.canLayAll0 ds=true /\ PyData.depthAll ds <= n) h fun d ds' e1 e2=>?_
      refine Af fun G kG=>?_
      refine An (ih a e1) fun zn0 h2 h3=>?_;obtain ⟨as,h1⟩:=zn0
      refine An (hi r e2) fun zn0 g2 g3=>?_;obtain ⟨bs,g1⟩:=zn0
      refine kG ?_
      exact ⟨⟨_,.cons h1 g1⟩,(Bool.and_eq_true _ _).mpr ⟨h2,g2⟩,Nat.max_le.mpr ⟨h3,g3⟩⟩
theorem Kz {α:Type} {p:Prop} [Decidable p] {x y:α} (h:(if p then some x else none)=some y):p /\ x=y:=by
  by_cases q:p
  · rw [if_pos q] at h;exact ⟨q,Option.some.inj h⟩
  · rw [if_neg q] at h;exact Ae h
theorem Es {n:Nat} {m:Val} {v:Value} {d:PyData} (x:VR cx ρ s.heap m v) (h:Rj m=some d):(∃ as,Reads s.heap v d as) /\ d.canLay0=true /\ d.depth <= n:=by
  cases x with
  | none=>cases h;exact ⟨⟨_,.none⟩,rfl,Nat.zero_le _⟩
  | bool b=>cases h;exact ⟨⟨_,.bool b⟩,rfl,Nat.zero_le _⟩
  | int i t=>cases h;exact ⟨⟨_,.int i t⟩,rfl,Nat.zero_le _⟩
  | str y t z =>
    obtain ⟨h1,h2⟩:=Kz h
    cases h2;exact ⟨⟨_,.str y t⟩,h1,Nat.zero_le _⟩
  | _=>exact Ae h
theorem Ct (R:Rel cx H ρ s):∀ (n:Nat) {m:Val} {v:Value} {d:PyData},VR cx ρ s.heap m v -> A5 H n m=some d -> (∃ as,Reads s.heap v d as) /\ d.canLay0=true /\ d.depth <= n:=by
  intro n
  induction n with
  | zero=>exact fun x h=>Es x h
  | succ n ih =>
    intro m v d x h
    cases x with
    | @tup a vs k ms e no z r =>
      refine Af fun G kG=>?_
      refine ex1 (Option.map_eq_some_iff.mp h) fun ds zz=>Ac zz fun h1 zr2=>?_;subst zr2
      refine An (Hw (n:=n) (fun x h=>ih x h) r h1) fun zn0 g2 g3=>?_;obtain ⟨as,g1⟩:=zn0
      refine kG ?_
      exact ⟨⟨_,.tuple e rfl rfl (by simpa using g1)⟩,g2,Nat.succ_le_succ g3⟩
    | @loc l p e =>
      have h:(match H[l]? with | some (.list vs)=>(I1 (A5 H n) vs).map .list | _=>none)=some d:=h
      cases hl:H[l]? with
      | none=>rw [hl] at h;exact Ae h
      | some o =>
        rw [hl] at h
        cases o with
        | list xs =>
          refine Af fun G kG=>?_
          refine ex1 (Option.map_eq_some_iff.mp h) fun ds zz=>Ac zz fun h1 zr2=>?_;subst zr2
          refine ex2 (R.listAt hl e) fun vs k zz=>Cm zz fun _ g r _=>?_
          refine An (Hw (n:=n) (fun x h=>ih x h) r h1) fun zn0 g2 g3=>?_;obtain ⟨as,g1⟩:=zn0
          refine kG ?_
          exact ⟨⟨_,.list g rfl rfl (by simpa using g1)⟩,g2,Nat.succ_le_succ g3⟩
        | _=>exact Ae h
    | none=>exact Es (cx:=cx) (ρ:=ρ) .none h
    | bool b=>exact Es (cx:=cx) (ρ:=ρ) (.bool b) h
    | int i t=>exact Es (cx:=cx) (ρ:=ρ) (.int i t) h
    | str y t z=>exact Es (cx:=cx) (ρ:=ρ) (.str y t z) h
    | _=>exact Ae h
end
section
variable {cx:Cx} {A:Around} {P:Amb} {a b:Val} {v w:Value} {H:Hp} {ρ:Rho} {s:Shared}
theorem He {d:PyData} (h:d.canLay0=true) (k:d.depth <= Fi):SeqAt.shaped d=true:=by
  unfold SeqAt.shaped;rw [h];exact decide_eq_true (zC k (show 6 <= 64 by decide))
theorem Af5 (R:Rel cx H ρ s) (x:VR cx ρ s.heap a v) (y:VR cx ρ s.heap b w) {r:Bool} (e:G9 H a b=some r) (hu:A.units+100 < cLine) {Q:Value -> Shared -> Prop} {E:Value -> Shared -> Prop} (k:Q (.bool r) s) :
    wpAny (model cx.prog cx.w) A (compareOp .Eq v w) Q E s:=by
  revert k
  refine Vp (C:=fun r=>Q (.bool r) s -> _) e fun d1 d2 e1 e2 k=>?_
  refine Af fun G kG=>?_
  refine An (Ct R Fi x e1) fun zn0 g2 g3=>?_;obtain ⟨as,g1⟩:=zn0
  refine An (Ct R Fi y e2) fun zn0 f2 f3=>?_;obtain ⟨bs,f1⟩:=zn0
  refine kG ?_
  exact SeqAt.compareEq_shaped g1 f1 (He g2 g3) (He f2 f3) (by exact o7 hu) k
theorem Af6 (R:Rel cx H ρ s) (x:VR cx ρ s.heap a v) (y:VR cx ρ s.heap b w) {r:Bool} (e:G9 H a b=some r) (hu:A.units+100 < cLine) {Q:Value -> Shared -> Prop} {E:Value -> Shared -> Prop} (k:Q (.bool (!r)) s) :
    wpAny (model cx.prog cx.w) A (compareOp .NotEq v w) Q E s:=by
  revert k
  refine Vp (C:=fun r=>Q (.bool (!r)) s -> _) e fun d1 d2 e1 e2 k=>?_
  refine Af fun G kG=>?_
  refine An (Ct R Fi x e1) fun zn0 g2 g3=>?_;obtain ⟨as,g1⟩:=zn0
  refine An (Ct R Fi y e2) fun zn0 f2 f3=>?_;obtain ⟨bs,f1⟩:=zn0
  refine kG ?_
  exact SeqAt.compareNe_shaped g1 f1 (He g2 g3) (He f2 f3) (by exact o7 hu) k
theorem Mh {r:Bool} (x:VR cx ρ s.heap a v) (h:isV a .none=some r):r=(v == .none):=by
  cases x with
  | none=>exact (Option.some.inj h).symm
  | _=>exact (Option.some.inj h).symm
theorem Rel.dictAt (R:Rel cx H ρ s) {l:Nat} {es:List (Key × Val)} {p:Addr × Addr} (hH:H[l]?=some (.dict es)) (hρ:ρ[l]?=some p) :
    ∃ xs,p.2=p.1 /\ s.heap.DictOfH (cellKind cx) p.1 xs /\ DRs cx ρ s.heap es xs /\ es.length <= sizeLine:=by
  have:=R.objs l _ p hH hρ
  generalize ho:HObj.dict es=o at this
  cases this with
  | list e r z=>exact nomatch ho
  | dict d r z=>cases ho;exact ⟨_,rfl,d,r,z⟩
  | inst _ _ _ _ _ _ _ _ _ _=>exact nomatch ho
  | hid _=>cases ho
theorem Yi {k:Int} {t:Tok}:(intKind cx.prog cx.w).is k (.int k t)=true:=by simp [intKind,Value.isInt]
theorem Oz {k:Key} (x:VR cx ρ s.heap a v) (h:Er a=some k):∃ b,v=.ref b /\ (cellKind cx).is s.heap [k.1,k.2] b /\ ¬ Av ρ b:=by
  rw [Yd h] at x
  cases x with
  | @tup b vs n ms e no z r =>
    refine Af fun G kG=>?_
    refine ex2 r.two_inv fun u w zz=>An zz fun ev r1 r2=>?_
    obtain ⟨t1,e1⟩:=r1.int_inv
    obtain ⟨t2,e2⟩:=r2.int_inv
    refine kG ?_
    exact ⟨b,rfl,⟨_,vs.toArray,n,e,rfl,rfl,ev▸e1▸e2▸.cons Yi (.cons Yi .nil)⟩,no⟩
theorem DRs.atKey {es:List (Key × Val)} {xs:List (List Int × Addr × Value)} (r:DRs cx ρ s.heap es xs) (k:Key) :
    match Ec es k,atKey xs [k.1,k.2] with
    | some m,some p=>VR cx ρ s.heap m p.2
    | none,none=>True
    | _,_=>False:=by
  induction r with
  | nil=>simp [Ec,PySem.atKey]
  | @cons k' v' b x es xs a n _ ih =>
    by_cases q:k'=k
    · refine q▸?_
      simp [Ec,PySem.atKey,a]
    · have q':¬ ([k'.1,k'.2]=[k.1,k.2]):=fun e=>q (by
        simp only [List.cons.injEq,and_true] at e
        exact Prod.ext e.1 e.2)
      have q2:(k == k')=false:=by simpa using fun e:k=k'=>q e.symm
      have e1:Ec ((k',v') :: es) k=Ec es k:=by simp [Ec,List.lookup_cons,q2]
      have e2:PySem.atKey (([k'.1,k'.2],b,x) :: xs) [k.1,k.2]=PySem.atKey xs [k.1,k.2]:=by
        unfold PySem.atKey
        rw [List.find?_cons]
        simp only [decide_eq_false q']
      rw [e1,e2]
      exact ih
theorem DRs.isSome {es:List (Key × Val)} {xs:List (List Int × Addr × Value)} (r:DRs cx ρ s.heap es xs) (k:Key):(PySem.atKey xs [k.1,k.2]).isSome=(Ec es k).isSome:=by
  have:=r.atKey k
  cases h1:Ec es k <;> cases h2:PySem.atKey xs [k.1,k.2] <;> simp_all
theorem Ek (R:Rel cx H ρ s) {l:Nat} {p:Addr × Addr} (hρ:ρ[l]?=some p):(p.1 == sysModules)=false:=by
  obtain ⟨o,e⟩:=R.sys
  have:=(R.new p (zF hρ)).1
  simpa using fun w:p.1=sysModules=>by rw [w,e] at this;exact nomatch this
theorem Yj (R:Rel cx H ρ s) (x:VR cx ρ s.heap a v) (y:VR cx ρ s.heap b w) {r:Bool} (e:inV a b H=some r) {C:Value -> Value -> Bool -> Prop}
    (k1:∀ {p d ds as bs},Reads s.heap (.ref p) (.list ds) bs -> Reads s.heap v d as -> PyData.canLayAll0 ds=true -> d.canLay0=true -> min (PyData.depthAll ds) d.depth <= 6 -> C v (.ref p) (ds.any fun y=>PyData.eqv y d))
    (k2:∀ {p:Addr} {bb:Addr} {kk:Key} {xs},(cellKind cx).is s.heap [kk.1,kk.2] bb -> (p == sysModules)=false -> s.heap.DictOfH (cellKind cx) p xs -> C (.ref bb) (.ref p) (PySem.atKey xs [kk.1,kk.2]).isSome):C v w r:=by
  cases y with
  | @loc l p hp =>
    refine Afq (C:=C v (.ref p.1)) e (fun ys hl e=>?_) fun es k hl ek=>?_
    · refine ex2 (R.listAt hl hp) fun vs n zz=>Cm zz fun _ g rr _=>?_
      refine Ac9 (C:=C v (.ref p.1)) e fun d ds e1 e2=>?_
      refine Af fun G kG=>?_
      refine An (Ct R Fi x e1) fun zn0 g2 g3=>?_;obtain ⟨as,g1⟩:=zn0
      refine An (Hw (n:=Fi) (fun x h=>Ct R Fi x h) rr e2) fun zn0 f2 f3=>?_;obtain ⟨bs,f1⟩:=zn0
      refine kG ?_
      exact k1 (.list g rfl rfl (by simpa using f1)) g1 f2 g2 (zC (Nat.min_le_right _ _) g3)
    · refine ex1 (R.dictAt hl hp) fun xs zz=>Cm zz fun _ D rr _=>?_
      refine ex1 (Oz x ek) fun bb zz=>An zz fun hr0 hk _=>?_;refine Eq.symm hr0▸?_
      exact rr.isSome k▸k2 hk (Ek R hp) D
  | _=>exact Ae e
theorem Af7 (R:Rel cx H ρ s) (x:VR cx ρ s.heap a v) (y:VR cx ρ s.heap b w) {r:Bool} (e:inV a b H=some r) (hu:A.units+100 < cLine) {Q:Value -> Shared -> Prop} {E:Value -> Shared -> Prop} (k:∀ tk,Q (.bool r) { s with toks:=tk }) :
    wpAny (model cx.prog cx.w) A (compareOp .In v w) Q E s :=
  Yj (C:=fun v w r=>(∀ tk,Q (.bool r) { s with toks:=tk }) -> wpAny (model cx.prog cx.w) A (compareOp .In v w) Q E s) R x y e
    (fun f g f2 g2 z k=>SeqAt.in_list_reads f g f2 g2 (zA (zJ z _) (by exact o8 hu)) (k s.toks))
    (fun hk q D k=>wpAny_in_heap (knd:=cellKind cx) (tupleKind_room_in1 (by exact o9 hu)) hk q D (k _)) k
theorem Vw (R:Rel cx H ρ s) (x:VR cx ρ s.heap a v) (y:VR cx ρ s.heap b w) {r:Bool} (e:inV a b H=some r) (hu:A.units+100 < cLine) {Q:Value -> Shared -> Prop} {E:Value -> Shared -> Prop} (k:∀ tk,Q (.bool (!r)) { s with toks:=tk }) :
    wpAny (model cx.prog cx.w) A (compareOp .NotIn v w) Q E s :=
  Yj (C:=fun v w r=>(∀ tk,Q (.bool (!r)) { s with toks:=tk }) -> wpAny (model cx.prog cx.w) A (compareOp .NotIn v w) Q E s) R x y e
    (fun f g f2 g2 z k=>SeqAt.notIn_list_reads f g f2 g2 (zA (zJ z _) (by exact o8 hu)) (k s.toks))
    (fun hk q D k=>PyProof.Rows.wpAny_notIn_heap (knd:=cellKind cx) (tupleKind_room_in1 (by exact o9 hu)) hk q D (k _)) k
theorem Mi {f g:Val -> Option PyData} (h:∀ m d,f m=some d -> g m=some d):∀ {xs:List Val} {ds:List PyData},I1 f xs=some ds -> I1 g xs=some ds
  | [],ds,e=>e
  | x :: xs,ds,e=>by
    refine Rp (C:=fun ds=>I1 g (x :: xs)=some ds) e fun d ds' e1 e2=>?_
    show (match g x,I1 g xs with
      | some d,some ds=>some (d :: ds)
      | _,_=>none)=_
    rw [h _ _ e1,Mi h e2]
theorem K5:∀ (n:Nat) (m:Val) (d:PyData),A5 [] n m=some d -> A5 H n m=some d
  | 0,m,d,e=>by cases m <;> exact e
  | n+1,m,d,e=>by
    cases m with
    | tup vs =>
      refine ex1 (Option.map_eq_some_iff.mp e) fun ds zz=>Ac zz fun e1 e2=>?_
      exact Option.map_eq_some_iff.mpr ⟨ds,Mi (K5 n) e1,e2⟩
    | loc l=>exact Ae e
    | _=>exact e
theorem O0 {r:Bool} (h:G9 [] a b=some r):G9 H a b=some r:=by
  refine Vp (C:=fun r=>G9 H a b=some r) h fun d1 d2 e1 e2=>?_
  delta G9
  rw [K5 _ _ _ e1,K5 _ _ _ e2]
theorem VR.tup_inv {h:Heap} {ms:List Val} (x:VR cx ρ h (.tup ms) v):∃ p vs n,v=.ref p /\ h.get? p=some (Ox vs n) /\ VRs cx ρ h ms vs:=by cases x;exact ⟨_,_,_,rfl,by assumption,by assumption⟩
theorem Hf (R:Rel cx H ρ s) (x:VR cx ρ s.heap a v) (y:VR cx ρ s.heap b w) {r:Bool} (e:G9 H a b=some r) (hu:A.units+10 < cLine) {Q:Bool -> Shared -> Prop} {E:Value -> Shared -> Prop} (k:Q r s) :
    wpAny (model cx.prog cx.w) A (eqBool v w) Q E s:=by
  revert k
  refine Vp (C:=fun r=>Q r s -> _) e fun d1 d2 e1 e2 k=>?_
  refine Af fun G kG=>?_
  refine An (Ct R Fi x e1) fun zn0 g2 g3=>?_;obtain ⟨as,g1⟩:=zn0
  refine An (Ct R Fi y e2) fun zn0 f2 f3=>?_;obtain ⟨bs,f1⟩:=zn0
  refine kG ?_
  exact SeqAt.eqBoolOverData _ _ _ _ _ _ _ _ _ _ _ _ g1 f1 g2 f2 (zA (zJ (zC (Nat.min_le_left _ _) g3) _) (show A.units+6 < cLine by exact o10 hu)) k
theorem R6 (R:Rel cx H ρ s):∀ (n:Nat) (A:Around) (a b:Val) (v w:Value) (r:Bool) (Q:Value -> Shared -> Prop) (E:Value -> Shared -> Prop),VR cx ρ s.heap a v -> VR cx ρ s.heap b w -> Ja n a b=some r -> A.units+20+n < cLine -> Q (.bool r) s -> wpAny (model cx.prog cx.w) A (richCompare .Lt v w) Q E s
  | 0,_,_,_,_,_,_,_,_,_,_,h,_,_=>by exact Ae h
  | n+1,A,a,b,v,w,r,Q,E,x,y,h,hu,k=>by
    refine Afp (C:=fun a b r=>VR cx ρ s.heap a v -> VR cx ρ s.heap b w -> Q (.bool r) s -> _) h (fun i j x y k=>?_) (fun ms ks h x y k=>?_) x y k
    · obtain ⟨t,hr0⟩:=x.int_inv;refine Eq.symm hr0▸?_
      obtain ⟨u,hr1⟩:=y.int_inv;refine Eq.symm hr1▸?_
      exact PyProof.Rows.lt_int k
    · obtain ⟨p,vs,n1,hr2,g1,r1⟩:=x.tup_inv;refine Eq.symm hr2▸?_
      obtain ⟨q,ws,n2,hr3,g2,r2⟩:=y.tup_inv;refine Eq.symm hr3▸?_
      have T1:s.TypeIs (.ref p) "tuple":=⟨_,g1,rfl⟩
      have T2:s.TypeIs (.ref q) "tuple":=⟨_,g2,rfl⟩
      refine wpAny_richCompare_same_room (T:="tuple") T1 T2 F.slot_tuple_lt (wpAny_call_entry F.slot_tuple_lt T1 F.entry_tuple_lt ?_ (F.args_tuple_lt_2 _ _)) (by exact o11 hu)
      have fin:∀ (z:Bool),z=r -> (∃ v,(Fin.done (.ret (.bool z)):Fin)=.done (.ret v) /\ v≠.notImplemented /\ Q v s):=fun z e=>⟨.bool z,rfl,by simp,by rw [e];exact k⟩
      show wpAny _ _ (isInstance (.ref q) (.type "tuple")>>=_) _ _ s
      refine zB (wpAny_isInstance T2 isSubtype_tuple_tuple ?_)
      simp only [Bool.not_true,Bool.false_eq_true,if_false]
      refine zB (wpAny_tupleItemsOf g1 rfl ?_)
      refine zB (wpAny_tupleItemsOf g2 rfl ?_)
      refine zB ?_
      refine wpAny_forIn_list _
        (fun rest z s'=>z.1=none /\ s'=s /\ ∃ ms' ks' vs' ws',rest=List.zip vs' ws' /\ VRs cx ρ s.heap ms' vs' /\ VRs cx ρ s.heap ks' ws' /\ lts (G9 []) (Ja n) ms' ks'=some r /\ decide (vs'.length < ws'.length)=decide (vs.toArray.size < ws.toArray.size))
        _ ?_ ?_ _ _ ⟨rfl,rfl,ms,ks,vs,ws,rfl,r1,r2,h,by simp⟩
      · intro ce rest z s' zz
        obtain ⟨hz,hs',ms',ks',vs',ws',hzip,q1,q2,hl,hlen⟩:=zz
        obtain ⟨c,e⟩:=ce
        rw [hs']
        clear hs' s'
        cases q1 with
        | nil=>simp at hzip
        | cons a1 q1 =>
          cases q2 with
          | nil=>simp at hzip
          | cons a2 q2 =>
            simp only [List.zip_cons_cons,List.cons.injEq,Prod.mk.injEq] at hzip
            obtain ⟨⟨rfl,rfl⟩,rfl⟩:=hzip
            rcases Ov hl with ⟨he,hl'⟩ | ⟨he,hl'⟩
            · refine zB (Hf R a1 a2 (O0 he) (by simp only [Around.in1_units];exact o12 hu) ?_)
              simp only [Bool.not_true,Bool.false_eq_true,if_false]
              exact zH ⟨rfl,rfl,_,_,_,_,rfl,q1,q2,hl',by simpa using hlen⟩
            · refine zB (Hf R a1 a2 (O0 he) (by simp only [Around.in1_units];exact o12 hu) ?_)
              simp only [Bool.not_false,if_true]
              refine zB (wpAny_rule ?_)
              refine zB (R6 R n A.in1 _ _ _ _ r _ _ a1 a2 hl' (by simp only [Around.in1_units];exact o13 hu) ?_)
              exact zB (zH (zH (zH (fin r rfl))))
      · intro z s' zz
        obtain ⟨hz,hs',ms',ks',vs',ws',hzip,q1,q2,hl,hlen⟩:=zz
        obtain ⟨z1,z2⟩:=z
        rw [hs']
        clear hs' s'
        simp only at hz
        subst hz
        refine zH ?_
        refine fin _ ?_
        rw [<- hlen]
        cases q1 with
        | nil =>
          cases q2 with
          | nil=>exact Option.some.inj hl
          | cons a2 q2=>exact Option.some.inj hl
        | cons a1 q1 =>
          cases q2 with
          | nil=>exact Option.some.inj hl
          | cons a2 q2=>simp at hzip
theorem Z3 {p:Int -> Int -> Bool} {r:Bool} {C:Value -> Value -> Bool -> Prop} {h:Heap} (e:Ac4 p a b=some r) (x1:VR cx ρ h a v) (x2:VR cx ρ h b w) (k:∀ x y t u,C (.int x t) (.int y u) (p x y)):C v w r:=by
  refine Ada (C:=fun a b r=>VR cx ρ h a v -> VR cx ρ h b w -> C v w r) e (fun x y x1 x2=>?_) x1 x2
  obtain ⟨t,e1⟩:=x1.int_inv
  obtain ⟨u,e2⟩:=x2.int_inv
  exact e1▸e2▸k _ _ _ _
theorem Adq {r:Bool} {C:Value -> Prop} (e:isV a b=some r) (x1:VR cx ρ s.heap a v) (x2:VR cx ρ s.heap b w) (k0:r=(v == .none) -> C .none):C w:=by
  cases b with
  | none=>cases x2;exact k0 (Mh x1 e)
  | _=>exact Ae e
theorem K6 (hu:A.units+100 < cLine) {op:COp} (h1:∀ ρ h,P.P ρ h -> VR cx ρ h a v) (h2:∀ ρ h,P.P ρ h -> VR cx ρ h b w) :
    Sim cx A P (compareOp (Iz op) v w) ((M.look (Dl op a b)).bnd fun r=>M.ret (Val.bool r)) (Amb.vr cx):=by
  intro H ρ s R p
  have x1:=h1 _ _ p
  have x2:=h2 _ _ p
  cases e:Dl op a b H with
  | none=>rw [C9 (show M.look (Dl op a b) H=.bad by unfold M.look;rw [e])];trivial
  | some r =>
    rw [Dt (show M.look (Dl op a b) H=.ok r H by unfold M.look;rw [e])]
    refine At R fun Q E k=>?_
    have k':∀ tk,Q (.bool r) { s with toks:=tk }:=fun tk=>k _ tk (.bool r)
    cases op with
    | eq=>exact Af5 R x1 x2 e hu (k' s.toks)
    | ne =>
      refine ex1 (Jg e) fun r' zz=>Ac zz fun e' zr2=>?_;subst zr2
      exact Af6 R x1 x2 e' hu (k' s.toks)
    | lt=>exact R6 R Fi A a b v w r _ _ x1 x2 e (by show A.units+20+6 < cLine;exact o14 hu) (k' s.toks)
    | le=>exact Z3 (C:=fun v w r=>Q (.bool r) s -> wpAny (model cx.prog cx.w) A (compareOp .LtE v w) Q E s) e x1 x2 (fun _ _ _ _=>PyProof.Rows.le_int) (k' s.toks)
    | gt=>exact Z3 (C:=fun v w r=>Q (.bool r) s -> wpAny (model cx.prog cx.w) A (compareOp .Gt v w) Q E s) e x1 x2 (fun _ _ _ _=>PyProof.Rows.gt_int) (k' s.toks)
    | ge=>exact Z3 (C:=fun v w r=>Q (.bool r) s -> wpAny (model cx.prog cx.w) A (compareOp .GtE v w) Q E s) e x1 x2 (fun _ _ _ _=>PyProof.Rows.ge_int) (k' s.toks)
    | is=>exact Adq (C:=fun w=>wpAny (model cx.prog cx.w) A (compareOp .Is v w) Q E s) e x1 x2 (fun h=>is_none (h▸k' s.toks))
    | isNot =>
      refine ex1 (Jg (show Yb true (isV a b)=some r from e)) fun r' zz=>Ac zz fun e' er=>?_
      exact Adq (C:=fun w=>wpAny (model cx.prog cx.w) A (compareOp .IsNot v w) Q E s) e' x1 x2 (fun h=>isNot_none (h▸er▸k' s.toks))
    | isin=>exact Af7 R x1 x2 e hu k'
    | notin =>
      refine ex1 (Jg (show Yb true (inV a b H)=some r from e)) fun r' zz=>Ac zz fun e' zr2=>?_;subst zr2
      exact Vw R x1 x2 e' hu k'
end
end Mine.Internal
namespace Mine.Internal
open PySem PyProof.Rows
theorem b63 {i:Int} {n:Nat} (z:n <= 16777216) (h:i < n):i < 2 ^ 63:=Int.lt_trans (Int.lt_of_lt_of_le h (Int.ofNat_le.mpr z)) (by decide)
theorem l63 {n:Nat} (z:n <= 16777216):(n:Int) < 2 ^ 63:=Int.lt_of_le_of_lt (Int.ofNat_le.mpr z) (by decide)
theorem n63 {i:Int} {n:Nat} (z:n <= 16777216) (h:-(n:Int) <= i):-2 ^ 63 <= i:=Int.le_trans (Int.le_trans (by decide) (Int.neg_le_neg (Int.ofNat_le.mpr z))) h
theorem rs1 {i:Int}:(if 0 < i then i - 0 else 0)=((i.toNat:Nat):Int):=by
  by_cases h:0 < i
  · rw [if_pos h,Int.sub_zero,Int.toNat_of_nonneg (Int.le_of_lt h)]
  · rw [if_neg h,Int.toNat_of_nonpos (Int.not_lt.mp h)];rfl
theorem D6 (slice:Expr) (o i:Value):∃ ops,subscripted slice false o i=operate ops (getItem o i):=by
  have h:∃ ops,operate [o,i] (getItem o i)=operate ops (getItem o i):=⟨_,rfl⟩
  cases slice with
  | Slice a b c d =>
    cases c with
    | none=>exact ⟨_,rfl⟩
    | some _=>exact h
  | _=>exact h
section
variable {cx:Cx} {A:Around} {P:Amb} {a b:Val} {v w:Value} {H:Hp} {ρ:Rho} {s:Shared}
set_option tactic.hygienic true in
theorem Np {l:Addr} {vs:List Value} {n:Nat} {k:Int} {u:Tok} {p:Nat} {x:Value} {Q:Value -> Shared -> Prop} {E:Value -> Shared -> Prop} (g:s.heap.get? l=some (Bq vs n)) (z:vs.length <= sizeLine) (hp:C0 k vs.length=some p) (hx:vs[p]?=some x) (h:Q x s) :
    wpAny (model cx.prog cx.w) A (getItem (.ref l) (.int k u)) Q E s:=by
  have L:s.heap.IsList l vs.toArray:=⟨_,g,rfl,n,rfl⟩
  rw [sizeLine_eq] at z
  unfold C0 at hp
  split at hp
  · split at hp
    · cases hp
      rename_i h0 h1
      exact wpAny_getItem_list L h0 (b63 z h1) (by simpa using hx) h
    · exact Ae hp
  · split at hp
    · cases hp
      rename_i h0 h1
      exact wpAny_getItem_list_neg L (by exact o15 h0) (by simpa using h1) (n63 z h1) (by simpa using hx) h
    · exact Ae hp
theorem O1 {value slice:Expr} {l:Addr} {vs:List Value} {xs:List Val} {n:Nat} {i:Int} {u:Tok} {r:Val} {Q E:Value -> Shared -> Prop} (g:s.heap.get? l=some (Bq vs n)) (rr:VRs cx ρ s.heap xs vs) (z:xs.length <= sizeLine)
    (e:((C0 i xs.length).bind fun p=>xs[p]?)=some r) (k:∀ x tk,VR cx ρ s.heap r x -> Q x { s with toks:=tk }):wpAny (model cx.prog cx.w) A (subscriptTail value slice (.ref l) (.int i u)) Q E s:=by
  refine Af fun G kG=>?_
  obtain ⟨ops,hops⟩:=D6 slice (.ref l) (.int i u)
  refine ex1 (Option.bind_eq_some_iff.mp e) fun pl zz=>Ac zz fun e1 e2=>?_
  refine ex1 (rr.get e2) fun x zz=>Ac zz fun ex vx=>?_
  refine kG ?_
  rw [rr.length] at z e1
  exact tail_any (T:="list") (Heap.IsList.typeIs (s:=s) ⟨_,g,rfl,n,rfl⟩) PySem.slot_list_getitem.lookup (Np g z e1 ex (k _ s.toks vx)) hops
theorem Vx {value slice:Expr} {q:Addr × Addr} {l:Nat} {es:List (Key × Val)} {r:Val} {Q E:Value -> Shared -> Prop} (hu:A.units+100 < cLine) (R:Rel cx H ρ s) (hl:H[l]?=some (.dict es)) (hq:ρ[l]?=some q) (x2:VR cx ρ s.heap b w) (e:((Er b).bind (Ec es))=some r)
    (k:∀ x tk,VR cx ρ s.heap r x -> Q x { s with toks:=tk }):wpAny (model cx.prog cx.w) A (subscriptTail value slice (.ref q.1) w) Q E s:=by
  refine Af fun G kG=>?_
  obtain ⟨ops,hops⟩:=D6 slice (.ref q.1) w
  refine ex1 (Option.bind_eq_some_iff.mp e) fun kk zz=>Ac zz fun e1 e2=>?_
  refine ex1 (R.dictAt hl hq) fun xs zz=>Cm zz fun _ D rr _=>?_
  refine ex1 (Oz x2 e1) fun bb zz=>An zz fun zr1 hk _=>?_;subst zr1
  refine kG ?_
  have at':=rr.atKey kk
  rw [e2] at at'
  cases hp:atKey xs [kk.1,kk.2] with
  | none=>rw [hp] at at';exact at'.elim
  | some pr =>
    rw [hp] at at'
    exact tail_any (T:="dict") D.typeIs PySem.slot_dict_getitem.lookup (wpAny_getItem_heap (knd:=cellKind cx) (tupleKind_room_in1 (by clear at' rr;exact o9 hu)) hk D hp (k _ _ at')) hops
theorem sub_tup {value slice:Expr} {t:Addr} {vs:List Value} {ms:List Val} {n:Nat} {i:Int} {u:Tok} {r:Val} {Q E:Value -> Shared -> Prop} (g:s.heap.get? t=some (Ox vs n)) (rr:VRs cx ρ s.heap ms vs) (z:ms.length <= sizeLine)
    (h0:0 <= i) (e:ms[i.toNat]?=some r) (k:∀ x tk,VR cx ρ s.heap r x -> Q x { s with toks:=tk }):wpAny (model cx.prog cx.w) A (subscriptTail value slice (.ref t) (.int i u)) Q E s:=by
  refine Af fun G kG=>?_
  obtain ⟨ops,hops⟩:=D6 slice (.ref t) (.int i u)
  refine ex1 (rr.get e) fun x zz=>Ac zz fun ex vx=>?_
  refine kG ?_
  have lt:=(List.getElem?_eq_some_iff.mp ex).1
  rw [rr.length,sizeLine_eq] at z
  refine tail_any (T:="tuple") (Heap.IsTuple.typeIs (s:=s) ⟨_,g,rfl,n,rfl⟩) slot_tuple_getitem.lookup ?_ hops
  exact getItem_tuple (items:=vs.toArray) ⟨_,g,rfl,n,rfl⟩ (Int.le_trans (by decide) h0) (b63 z (by exact o16 h0 lt)) (seqIndex_of h0 (by simp only [List.size_toArray];exact o16 h0 lt)) (by simpa using ex) (k _ s.toks vx)
theorem VR.tup_inv' {ms:List Val} {h:Heap} (x:VR cx ρ h (.tup ms) v):∃ p vs n,v=.ref p /\ h.get? p=some (Ox vs n) /\ VRs cx ρ h ms vs /\ ms.length <= sizeLine:=by cases x;exact ⟨_,_,_,rfl,by assumption,by assumption,by assumption⟩
theorem VR.script_inv {ns:List Int} {h:Heap} (x:VR cx ρ h (.script ns) v):∃ p vs n,v=.ref p /\ cx.h₀.get? p=some (Bq vs n) /\ VRs cx ρ h (ns.map .int) vs /\ ns.length <= sizeLine:=by cases x;exact ⟨_,_,_,rfl,by assumption,by assumption,by assumption⟩
theorem Nq {ns:List Int} {i:Int} {r:Val} (e:((C0 i ns.length).bind fun p=>(ns[p]?).map Val.int)=some r):((C0 i (ns.map Val.int).length).bind fun p=>(ns.map Val.int)[p]?)=some r:=by
  rw [List.length_map,<- e]
  congr 1
  funext p
  rw [List.getElem?_map]
set_option tactic.hygienic true in
theorem Nr {value slice:Expr} (hu:A.units+100 < cLine) (h1:∀ ρ h,P.P ρ h -> VR cx ρ h a v) (h2:∀ ρ h,P.P ρ h -> VR cx ρ h b w):Sim cx A P (subscriptTail value slice v w) (De a b) (Amb.vr cx):=by
  refine Sim.look fun H ρ s r R p e Q E k=>?_
  have x1:=h1 _ _ p
  have x2:=h2 _ _ p
  clear h1 h2 p
  cases a with
  | loc l =>
    refine ex1 x1.loc_inv fun q zz=>Ac zz fun hq hr0=>?_;refine Eq.symm hr0▸?_
    cases hl:H[l]? with
    | none=>dsimp only at e;rw [hl] at e;exact Ae e
    | some o =>
      dsimp only at e
      rw [hl] at e
      cases o with
      | list xs =>
        cases b with
        | int i =>
          obtain ⟨u,hr1⟩:=x2.int_inv;refine Eq.symm hr1▸?_
          refine ex2 (R.listAt hl hq) fun vs n zz=>Cm zz fun _ g rr z=>?_
          exact O1 g rr z e k
        | _=>exact Ae e
      | dict es=>exact Vx hu R hl hq x2 e k
      | _=>exact Ae e
  | tup ms =>
    cases b with
    | int i =>
      obtain ⟨u,rfl⟩:=x2.int_inv
      refine ex3 x1.tup_inv' fun t vs n zz=>Cm zz fun zr3 g rr z=>?_;subst zr3
      have e:(if 0 <= i then ms[i.toNat]? else none)=some r:=e
      split at e
      · rename_i h0;exact sub_tup g rr z h0 e k
      · exact Ae e
    | _=>exact Ae e
  | script ns =>
    cases b with
    | int i =>
      obtain ⟨u,rfl⟩:=x2.int_inv
      refine ex3 x1.script_inv fun t vs n zz=>Cm zz fun zr3 g rr z=>?_;subst zr3
      exact O1 (R.base _ _ g) rr (by rw [List.length_map];exact z) (Nq e) k
    | _=>exact Ae e
  | _=>exact Ae e
end
end Mine.Internal
namespace Mine.Internal
open PySem
section
variable {cx:Cx} {A:Around} {P:Amb} {a b:Val} {v w:Value} {H:Hp} {ρ:Rho} {s:Shared}
noncomputable def Af8 (s:Shared) (v:Value):Kd -> Prop
  | .none=>v=.none
  | .bool=>∃ b,v=.bool b
  | .int=>∃ i t,v=.int i t
  | .str=>∃ y t,v=.str y t
  | .tuple=>∃ p o,v=.ref p /\ s.heap.get? p=some o /\ o.cls=.type "tuple"
  | .list=>∃ p o,v=.ref p /\ s.heap.get? p=some o /\ o.cls=.type "list"
  | .dict=>∃ p o,v=.ref p /\ s.heap.get? p=some o /\ o.cls=.type "dict"
theorem Af9 (R:Rel cx H ρ s) (x:VR cx ρ s.heap a v) {k:Kd} (e:Ot H a=some k):Af8 s v k:=by
  cases x with
  | none=>cases e;rfl
  | bool b=>cases e;exact ⟨_,rfl⟩
  | int i t=>cases e;exact ⟨_,_,rfl⟩
  | str y t z=>cases e;exact ⟨_,_,rfl⟩
  | tup g _ _ _=>cases e;exact ⟨_,_,rfl,g,rfl⟩
  | script g _ _=>cases e;exact ⟨_,_,rfl,R.base _ _ g,rfl⟩
  | @loc l p hp =>
    refine Afr (C:=Af8 s (.ref p.1)) e (fun xs hl=>?_) fun es hl=>?_
    · refine Af fun G kG=>?_
      refine ex2 (R.listAt hl hp) fun vs n zz=>An zz fun _ g _=>?_
      refine kG ?_
      exact ⟨_,_,rfl,g,rfl⟩
    · refine Af fun G kG=>?_
      refine ex1 (R.dictAt hl hp) fun xs zz=>An zz fun _ D _=>?_
      refine ex3 D fun o _ _ zz=>An zz fun g ex _=>?_
      refine kG ?_
      exact ⟨_,_,rfl,g,ex.1⟩
  | rng=>exact Ae e
  | exc=>exact Ae e
noncomputable def Vy:Ty -> Value
  | .int=>.type "int"
  | .bool=>.type "bool"
  | .str=>.type "str"
  | .tuple=>.type "tuple"
  | .list=>.type "list"
  | .cls _=>.none
theorem Adr (R:Rel cx H ρ s) (x:VR cx ρ s.heap a v) {k:Kd} (e:Ot H a=some k) {t:Ty} (ht:∀ c,t≠.cls c) {Q:Value -> Shared -> Prop} {E:Value -> Shared -> Prop} (q:∀ tk,Q (.bool (Yc t k)) { s with toks:=tk }) :
    wpAny (model cx.prog cx.w) A (call (.builtin "isinstance") [v,Vy t]) Q E s:=by
  have d:=Af9 R x e
  cases k <;> cases t
  case none.cls | bool.cls | int.cls | str.cls | tuple.cls | list.cls | dict.cls=>exact absurd rfl (ht _)
  all_goals dsimp only [Af8] at d
  case none.int=>subst d;exact IsiPair.NoneType_int (q _)
  case none.bool=>subst d;exact IsiPair.NoneType_bool (q _)
  case none.str=>subst d;exact IsiPair.NoneType_str (q _)
  case none.tuple=>subst d;exact IsiPair.NoneType_tuple (q _)
  case none.list=>subst d;exact IsiPair.NoneType_list (q _)
  case bool.int=>obtain ⟨b,rfl⟩:=d;exact IsiPair.bool_int (q _)
  case bool.bool=>obtain ⟨b,rfl⟩:=d;exact IsiPair.bool_bool (q _)
  case bool.str=>obtain ⟨b,rfl⟩:=d;exact IsiPair.bool_str (q _)
  case bool.tuple=>obtain ⟨b,rfl⟩:=d;exact IsiPair.bool_tuple (q _)
  case bool.list=>obtain ⟨b,rfl⟩:=d;exact IsiPair.bool_list (q _)
  case int.int=>refine ex2 d fun i u zr2=>?_;subst zr2;exact IsiPair.int_int (q _)
  case int.bool=>refine ex2 d fun i u zr2=>?_;subst zr2;exact IsiPair.int_bool (q _)
  case int.str=>refine ex2 d fun i u zr2=>?_;subst zr2;exact IsiPair.int_str (q _)
  case int.tuple=>refine ex2 d fun i u zr2=>?_;subst zr2;exact IsiPair.int_tuple (q _)
  case int.list=>refine ex2 d fun i u zr2=>?_;subst zr2;exact IsiPair.int_list (q _)
  case str.int=>refine ex2 d fun i u zr2=>?_;subst zr2;exact IsiPair.str_int (q _)
  case str.bool=>refine ex2 d fun i u zr2=>?_;subst zr2;exact IsiPair.str_bool (q _)
  case str.str=>refine ex2 d fun i u zr2=>?_;subst zr2;exact IsiPair.str_str (q _)
  case str.tuple=>refine ex2 d fun i u zr2=>?_;subst zr2;exact IsiPair.str_tuple (q _)
  case str.list=>refine ex2 d fun i u zr2=>?_;subst zr2;exact IsiPair.str_list (q _)
  case tuple.int=>refine ex2 d fun p o zz=>An zz fun zr2 g c=>?_;subst zr2;exact IsiPair.tuple_int g c (q _)
  case tuple.bool=>refine ex2 d fun p o zz=>An zz fun zr2 g c=>?_;subst zr2;exact IsiPair.tuple_bool g c (q _)
  case tuple.str=>refine ex2 d fun p o zz=>An zz fun zr2 g c=>?_;subst zr2;exact IsiPair.tuple_str g c (q _)
  case tuple.tuple=>refine ex2 d fun p o zz=>An zz fun zr2 g c=>?_;subst zr2;exact IsiPair.tuple_tuple g c (q _)
  case tuple.list=>refine ex2 d fun p o zz=>An zz fun zr2 g c=>?_;subst zr2;exact IsiPair.tuple_list g c (q _)
  case list.int=>refine ex2 d fun p o zz=>An zz fun zr2 g c=>?_;subst zr2;exact IsiPair.list_int g c (q _)
  case list.bool=>refine ex2 d fun p o zz=>An zz fun zr2 g c=>?_;subst zr2;exact IsiPair.list_bool g c (q _)
  case list.str=>refine ex2 d fun p o zz=>An zz fun zr2 g c=>?_;subst zr2;exact IsiPair.list_str g c (q _)
  case list.tuple=>refine ex2 d fun p o zz=>An zz fun zr2 g c=>?_;subst zr2;exact IsiPair.list_tuple g c (q _)
  case list.list=>refine ex2 d fun p o zz=>An zz fun zr2 g c=>?_;subst zr2;exact IsiPair.list_list g c (q _)
  case dict.int=>refine ex2 d fun p o zz=>An zz fun zr2 g c=>?_;subst zr2;exact IsiPair.dict_int g c (q _)
  case dict.bool=>refine ex2 d fun p o zz=>An zz fun zr2 g c=>?_;subst zr2;exact IsiPair.dict_bool g c (q _)
  case dict.str=>refine ex2 d fun p o zz=>An zz fun zr2 g c=>?_;subst zr2;exact IsiPair.dict_str g c (q _)
  case dict.tuple=>refine ex2 d fun p o zz=>An zz fun zr2 g c=>?_;subst zr2;exact IsiPair.dict_tuple g c (q _)
  case dict.list=>refine ex2 d fun p o zz=>An zz fun zr2 g c=>?_;subst zr2;exact IsiPair.dict_list g c (q _)
noncomputable def K7:BF -> Value
  | .len=>.builtin "len"
  | .range=>.type "range"
  | .list=>.type "list"
  | .sorted=>.builtin "sorted"
  | .max2=>.builtin "max"
  | .sortedSet=>.none
theorem Vz (R:Rel cx H ρ s) (x:VR cx ρ s.heap a v) {xs:List Val} (e:Cz a H=some xs) :
    (∃ p vs n,v=.ref p /\ s.heap.get? p=some (Bq vs n) /\ VRs cx ρ s.heap xs vs /\ xs.length <= sizeLine) \/ (∃ p vs n,v=.ref p /\ s.heap.get? p=some (Ox vs n) /\ VRs cx ρ s.heap xs vs /\ xs.length <= sizeLine):=by
  cases x with
  | @tup p vs n ms g no z r=>cases e;exact .inr ⟨_,_,_,rfl,g,r,z⟩
  | @script p vs n ns g z r=>cases e;exact .inl ⟨_,_,_,rfl,R.base _ _ g,r,by rw [List.length_map];exact z⟩
  | @loc l p hp =>
    refine Af fun G kG=>?_
    refine ex2 (R.listAt (Mc e) hp) fun vs n zz=>Cm zz fun _ g r z=>?_
    refine kG ?_
    exact .inl ⟨_,_,_,rfl,g,r,z⟩
  | _=>exact Ae e
theorem Z4 (h1:∀ ρ h,P.P ρ h -> VR cx ρ h a v):Sim cx A P (call (.builtin "len") [v]) (bfV .len [a]) (Amb.vr cx):=by
  refine Sim.look fun H ρ s r R p e Q E k=>?_
  have x:=h1 _ _ p
  have gen:∀ xs,Cz a H=some xs -> r=.int xs.length -> wpAny (model cx.prog cx.w) A (call (.builtin "len") [v]) Q E s:=by
    intro xs e' hr
    subst hr
    rcases Vz R x e' with ⟨p,vs,n,rfl,g,rr,z⟩ | ⟨p,vs,n,rfl,g,rr,z⟩
    · rw [sizeLine_eq] at z
      rw [rr.length] at z k
      refine PyProof.Rows.len_list (items:=vs.toArray) ⟨_,g,rfl,n,rfl⟩ (l63 z) ?_
      simp only [List.size_toArray]
      exact k _ _ (.int _ _)
    · rw [sizeLine_eq] at z
      rw [rr.length] at z k
      refine PyProof.Rows.len_tuple (items:=vs.toArray) ⟨_,g,rfl,n,rfl⟩ (l63 z) ?_
      simp only [List.size_toArray]
      exact k _ _ (.int _ _)
  cases x with
  | _ =>
    simp only [Option.map_eq_some_iff] at e
    refine ex1 e fun xs zz=>Ac zz fun e1 zr2=>?_;subst zr2
    exact gen xs e1 rfl
theorem R7 (h1:∀ ρ h,P.P ρ h -> VR cx ρ h a v):Sim cx A P (call (.type "range") [v]) (bfV .range [a]) (Amb.vr cx):=by
  intro H ρ s R p
  have x:=h1 _ _ p
  cases x with
  | int i t =>
    show Bf cx A ((if -1073741824 <= i /\ i <= 1073741824 then M.ret (Val.rng i) else M.bad) H) _ _ ρ s
    by_cases q:-1073741824 <= i /\ i <= 1073741824
    · rw [if_pos q]
      have F:=Full.push ρ s.heap { cls:=.type "range",data:=.fields #[.int 0 s.toks,.int i t,.int 1 (s.toks+1)] }
      exact call_range_1 ⟨ρ,F,R.push _ _,.rng (IsRange.new _ _ _ _ _ _ _) (R.fresh_not (Ao _)) (Int.le_trans (by decide) q.1) (Int.lt_of_le_of_lt q.2 (by decide))⟩
    · rw [if_neg q];trivial
  | _=>trivial
theorem V0 (hh:A.handled=none) (h1:∀ ρ h,P.P ρ h -> VR cx ρ h a v) (h2:∀ ρ h,P.P ρ h -> VR cx ρ h b w):Sim cx A P (call (.builtin "max") [v,w]) (bfV .max2 [a,b]) (Amb.vr cx):=by
  intro H ρ s R p
  have x:=h1 _ _ p
  have y:=h2 _ _ p
  cases x with
  | int i t =>
    cases y with
    | int j u =>
      refine max_two_ints hh fun h' tk kp=>?_
      refine ⟨ρ,Full.more kp,R.more kp,?_⟩
      by_cases q:j > i
      · rw [if_pos q,if_pos q];exact .int _ _
      · rw [if_neg q,if_neg q];exact .int _ _
    | _=>trivial
  | _=>trivial
theorem Jj {t:Sem Value} {xs:List Val} (R:Rel cx H ρ s) (z:xs.length <= sizeLine)
    (k:∀ (Q:Value -> Shared -> Prop) (E:Value -> Shared -> Prop),(∀ h' tk vs n,(∀ b o,s.heap.get? b=some o -> h'.get? b=some o) -> h'.get? s.heap.objs.size=some (Bq vs n) -> (∀ ρ',Step ρ s.heap ρ' h' -> VRs cx ρ' h' xs vs) -> Q (.ref s.heap.objs.size) { s with heap:=h',toks:=tk }) -> wpAny (model cx.prog cx.w) A t Q E s) :
    Bf cx A (.ok (.loc H.length) (H++[.list xs])) t (Amb.vr cx) ρ s:=by
  refine k _ _ fun h' tk vs n kp e r=>?_
  obtain ⟨F,R'⟩:=R.alloc (tk:=tk) (o:=.list xs) (p:=(s.heap.objs.size,s.heap.objs.size)) kp ⟨Ao _,Ao _⟩
    (.list (n:=n) e (r _ (Full.alloc kp ⟨Ao _,Ao _⟩).step) z)
  refine ⟨_,F,R',?_⟩
  rw [R.len]
  exact VR.loc (p:=(s.heap.objs.size,s.heap.objs.size)) (by rw [List.getElem?_append_right (zI _)];simp)
theorem V3 {xs:List Val} {vs:List Value} (n:Nat) (hx:xs.length=n) (hv:vs.length=n) (h:∀ i (hi:i < n),∃ t,xs[i]?=some (.int (i:Int)) /\ vs[i]?=some (.int (i:Int) t)) (ρ:Rho) (hp:Heap):VRs cx ρ hp xs vs:=by
  have gen:∀ (xs:List Val) (vs:List Value),xs.length=vs.length -> (∀ i,i < xs.length -> ∃ j t,xs[i]?=some (.int j) /\ vs[i]?=some (.int j t)) -> VRs cx ρ hp xs vs:=by
    intro xs
    induction xs with
    | nil=>intro vs h _;cases vs with
      | nil=>exact .nil
      | cons _ _=>simp at h
    | cons x xs ih =>
      intro vs h k
      cases vs with
      | nil=>simp at h
      | cons v vs =>
        refine ex2 (k 0 (by simp)) fun j t zz=>Ac zz fun e1 e2=>?_
        simp at e1 e2
        subst e1 e2
        refine .cons (.int _ _) (ih vs (by simpa using h) fun i hi=>?_)
        refine ex2 (k (i+1) (by simpa using hi)) fun j' t' zz=>Ac zz fun e1 e2=>?_
        exact ⟨j',t',by simpa using e1,by simpa using e2⟩
  refine gen xs vs (hx.trans hv.symm) fun i hi=>?_
  refine ex1 (h i (by exact o17 hi hx hv)) fun t zz=>Ac zz fun e1 e2=>?_
  exact ⟨_,t,e1,e2⟩
theorem Qb (hh:A.handled=none) (h1:∀ ρ h,P.P ρ h -> VR cx ρ h a v):Sim cx A P (call (.type "list") [v]) (bfV .list [a]) (Amb.vr cx):=by
  intro H ρ s R p
  have x:=h1 _ _ p
  cases x with
  | @rng q i t u w g no z1 z2 =>
    show Bf cx A (if i <= 100000 then M.alloc (.list ((List.range i.toNat).map fun (k:Nat)=>.int (k:Int))) H else .bad) _ _ ρ s
    by_cases hi:i <= 100000
    · rw [if_pos hi]
      refine Jj R (by rw [List.length_map,List.length_range,sizeLine_eq];exact o18 z1 z2 hi) fun Q E k=>?_
      refine call_list_range (n:=i.toNat) hh g (small_one (by decide) (by decide) z1 z2) (by rw [rangeSize_one];exact rs1) (zC (Int.toNat_le.mpr hi:_ <= 100000) (by decide)) fun h' tk acc c kp e it=>?_
      refine k h' tk acc.toList c kp (by simpa [Bq] using e) fun ρ' _=>V3 i.toNat (by simp) ?_ (fun j hj=>?_) _ _
      · have:=it.1;simpa using this
      · have lt:j < acc.size:=by rw [it.1];exact hj
        have e0:acc[j]?=some acc[j]:=Array.getElem?_eq_getElem lt
        obtain ⟨t,ht⟩:=it.2 j _ e0
        refine ⟨t,by simp [hj],?_⟩
        rw [ht] at e0
        simpa using e0
    · rw [if_neg hi];trivial
  | @loc l q hq =>
    show Bf cx A (match Cz (.loc l) H with
      | some xs=>M.alloc (.list xs) H
      | none=>.bad) _ _ ρ s
    cases e:Cz (.loc l) H with
    | some xs =>
      refine Af fun G kG=>?_
      refine ex2 (R.listAt (Mc e) hq) fun vs n zz=>Cm zz fun _ g r z=>?_
      refine kG ?_
      refine Jj R z fun Q E k=>?_
      refine call_list_seq q.1 (T:="list") (items:=vs.toArray) (.inl rfl) g rfl rfl (fun h' c kp e=>?_) (by simp only [List.size_toArray];rw [<- r.length];exact z)
      exact k h' s.toks vs c kp e fun ρ' st=>r.step st
    | none=>trivial
  | _=>trivial
end
theorem Dn {o:Expr} (h:Cn o=true) (n:Str) (env:Env) (t:Sem Value):attributeBase o n env t=t:=by
  have k:t=t:=rfl
  cases o with
  | Call f args kws pos =>
    cases f with
    | Name id c =>
      cases args with
      | nil =>
        cases kws with
        | nil =>
          have:(id != ("super":Str))=true:=h
          exact if_pos (by simp only [this,Bool.true_or])
        | cons _ _=>exact k
      | cons _ _=>exact k
    | _=>exact k
  | _=>exact k
section
variable {cx:Cx} {A:Around} {P:Amb} {env:Env} {H:Hp} {ρ:Rho} {s:Shared}
noncomputable def B7 (env:Env):List Expr -> Prop
  | []=>True
  | e :: es=>starEach (e :: es) env=(false,eval e env) :: starEach es env /\ B7 env es
theorem Ap {env:Env}:∀ {xs:List Expr} (pos:Pos),B7 env xs -> backTo pos (starEach xs env)=xs.map fun e=>(false,eval e env)
  | [],pos,_=>rfl
  | e :: es,pos,h=>by
    rw [h.1]
    have:=Ap pos h.2
    unfold backTo at this ⊢
    rw [List.map_cons,this]
    simp
theorem Hg {env:Env} {xs:List Expr} {pos:Pos} (h:B7 env xs) (z:xs.length <= 20) :
    ((backTo pos (starEach xs env)).all (fun x=>!x.1) && (backToKw pos (keywordEach [] env)).all (fun x=>x.1.isSome) && decide (xs.length+([]:List Keyword).length+(if ([]:List Keyword).isEmpty then 0 else 1) < 30))=true:=by
  rw [Ap pos h]
  simp only [Bool.and_eq_true,List.all_eq_true,List.mem_map,forall_exists_index,and_imp,decide_eq_true_eq]
  refine ⟨⟨fun x e _ hx=>by rw [<- hx];rfl,?_⟩,?_⟩
  · intro x hx;exact absurd (show x∈[] from hx) List.not_mem_nil
  · simp;exact o19 z
theorem Nt {T id:String} {o:Expr} {name:Str} {apos pos:Pos} {args:List Expr} {m:M Val} {g:Val -> M Val} (hs:Cn o=true) (hp:B7 env args) (hz:args.length <= 20) (hline:(apos.endLine == pos.line)=true)
    (pa:PlainAttrs T) (slot:Slot T name id) (hty:typeOf (.builtin id)=pure (.type "method_descriptor"))
    (x:Bf cx A (m H) (eval o env) (Amb.vr cx) ρ s)
    (y:∀ b a H' ρ' s',m H=.ok b H' -> Full ρ s.heap ρ' s'.heap -> Rel cx H' ρ' s' -> VR cx ρ' s'.heap b a ->
      Gm cx (g b H') (fun Q E s₁=>s₁.TypeIs a T /\ (∀ p,a=.ref p -> ∃ ob,s₁.heap.get? p=some ob /\ ob.dict=none) /\ wpAny (model cx.prog cx.w) A (callWith pos (.builtin id) [a] (args.map fun e=>(false,eval e env)) []) Q E s₁) (Amb.vr cx) ρ' s') :
    Bf cx A (m.bnd g H) (eval (.Call (.Attribute o name apos) args [] pos) env) (Amb.vr cx) ρ s :=
  Bf.bindK (K':=fun Q E s=>wpAny (model cx.prog cx.w) A (eval (.Call (.Attribute o name apos) args [] pos) env) Q E s) x y
    (fun a Q E Q' E' s ⟨h1,h2,h3⟩ k1 k2=>⟨h1,h2,zE h3 k1 k2⟩)
    (fun Q E h=>wpAny_Call_method (Dn hs _ _ _) (Hg hp hz) hline pa slot hty (by rw [Ap pos hp];exact h))
theorem Gm.andK {β α:Type} {r:Res β} {p:Prop} (hp:p) {K:(α -> Shared -> Prop) -> (Value -> Shared -> Prop) -> Shared -> Prop} {V:β -> α -> Amb} (x:Gm cx r K V ρ s):Gm cx r (fun Q E s'=>p /\ K Q E s') V ρ s:=x.mono fun _ _ h=>⟨hp,h⟩
theorem R8 (R:Rel cx H ρ s) {l:Nat} {p:Addr × Addr} {xs:List Val} (hl:H[l]?=some (.list xs)) (hp:ρ[l]?=some p):s.TypeIs (.ref p.1) "list" /\ ∀ q,Value.ref p.1=.ref q -> ∃ ob,s.heap.get? q=some ob /\ ob.dict=none:=by
  refine Af fun G kG=>?_
  refine ex2 (R.listAt hl hp) fun vs n zz=>An zz fun _ g _=>?_
  refine kG ?_
  exact ⟨⟨_,g,rfl⟩,fun q e=>by cases e;exact ⟨_,g,rfl⟩⟩
theorem Jk (vs:List Value) (n:Nat) (f:Array Value -> Array Value):∃ n',Obj.mapSeq f (Bq vs n)=Bq (f vs.toArray).toList n':=by
  unfold Bq Obj.mapSeq
  exact ⟨_,rfl⟩
theorem Jl {l:Nat} {p:Addr × Addr} {b:Val} {v:Value} {ys:List Val} {vs:List Value} {n:Nat} (R:Rel cx H ρ s) (hl:ρ[l]?=some p) (hpp:p.2=p.1) (g:s.heap.get? p.1=some (Bq vs n)) (f:Array Value -> Array Value)
    (r:VRs cx ρ s.heap ys (f vs.toArray).toList) (z:ys.length <= sizeLine) (hv:∀ h,Full ρ s.heap ρ h -> VR cx ρ h b v) :
    ∃ ρ',Full ρ s.heap ρ' (s.heap.update p.1 (Obj.mapSeq f)) /\ Rel cx (H.set l (.list ys)) ρ' { s with heap:=s.heap.update p.1 (Obj.mapSeq f) } /\ (Amb.vr cx b v).P ρ' (s.heap.update p.1 (Obj.mapSeq f)):=by
  obtain ⟨n',e⟩:=Jk vs n f
  have g':(s.heap.update p.1 (Obj.mapSeq f)).get? p.1=some (Bq (f vs.toArray).toList n'):=by
    rw [Heap.get?_update_self _ g (by skip;rfl),e]
  have hs:Heap.SameBut p.1 s.heap (s.heap.update p.1 (Obj.mapSeq f)):=Heap.SameBut.update ..
  have own:Av ρ p.1:=⟨p,zF hl,.inl rfl⟩
  have F:=Full.own own g' hs
  obtain ⟨F',R'⟩:=R.set (tk:=s.toks) (o:=.list ys) hl (fun b ob eb n1 _=>by rw [hs.2 b n1];exact eb) (SameBut.live hs g') (by
    obtain ⟨p1,p2⟩:=p
    dsimp only at hpp
    refine Eq.symm hpp▸?_
    exact .list g' (r.step F.step) z)
  exact ⟨ρ,F',R',hv _ F'⟩
theorem Ke {vs:List Value} {xs:List Val} (r:VRs cx ρ s.heap xs vs) (z:xs.length <= sizeLine):vs.toArray.size <= sizeLine:=by simp only [List.size_toArray];rw [<- r.length];exact z
theorem Fr {Φ:Funs} {Γ:Env'} {es:MEs} {xs:List Expr} {f:Value} {γ δ:Type} {g:List Val -> M δ} {W:δ -> γ -> Amb} {K:List Value -> (γ -> Shared -> Prop) -> (Value -> Shared -> Prop) -> Shared -> Prop}
    (hn:xs=[] -> es=.nil) (R:Rel cx H ρ s) (x:Bf cx A (evalEs cx.T Φ es Γ H) (spliced (xs.map fun e=>(false,eval e env))) (Amb.vrs cx) ρ s)
    (y:∀ ms vs H' ρ' s',evalEs cx.T Φ es Γ H=.ok ms H' -> Full ρ s.heap ρ' s'.heap -> Rel cx H' ρ' s' -> VRs cx ρ' s'.heap ms vs -> Gm cx (g ms H') (K vs) W ρ' s') (mk:∀ vs,P9 (K vs)) :
    Gm cx ((evalEs cx.T Φ es Γ).bnd g H) (fun Q E s=>wpAny (model cx.prog cx.w) A (evalArgs f true (xs.map fun e=>(false,eval e env)) []) (fun a s₁=>a.kw=[] /\ K a.pos Q E s₁) E s) W ρ s:=by
  cases xs with
  | nil =>
    obtain rfl:=hn rfl
    have e:evalEs cx.T Φ .nil Γ H=.ok [] H:=rfl
    refine (y [] [] H ρ s e (Full.refl _ _) R .nil).mono fun Q E h=>?_
    exact evalArgs_none ⟨rfl,h⟩
  | cons e0 es0 =>
    refine Bf.bindK (K:=K) x y mk fun Q E h=>?_
    exact Calls.evalArgs_plain (zE h (fun vs s' h'=>⟨rfl,h'⟩) fun _ _ q=>q)
theorem Di (args:List Expr):(args.map fun e=>(false,eval e env)).any (·.1)=false:=by
  induction args with
  | nil=>rfl
  | cons e es ih=>rw [List.map_cons,List.any_cons,ih];rfl
theorem I3 {α:Type} (t:Sem α):P9 fun Q E s=>wpAny (model cx.prog cx.w) A t Q E s:=fun _ _ _ _ _ h k1 k2=>zE h k1 k2
theorem Qc {Φ:Funs} {Γ:Env'} {es:MEs} {xs:List Expr} {pos:Pos} {id:String} {first:List Value} {g:List Val -> M Val} (hn:xs=[] -> es=.nil) (R:Rel cx H ρ s)
    (x:Bf cx A (evalEs cx.T Φ es Γ H) (spliced (xs.map fun e=>(false,eval e env))) (Amb.vrs cx) ρ s)
    (y:∀ ms vs H' ρ' s',evalEs cx.T Φ es Γ H=.ok ms H' -> Full ρ s.heap ρ' s'.heap -> Rel cx H' ρ' s' -> VRs cx ρ' s'.heap ms vs -> Bf cx A (g ms H') (call (.builtin id) (first++vs)) (Amb.vr cx) ρ' s') :
    Bf cx A ((evalEs cx.T Φ es Γ).bnd g H) (callWith pos (.builtin id) first (xs.map fun e=>(false,eval e env)) []) (Amb.vr cx) ρ s :=
  (Fr (f:=.builtin id) (K:=fun vs Q E s=>wpAny (model cx.prog cx.w) A (call (.builtin id) (first++vs)) Q E s) hn R x y (fun _=>I3 _)).mono fun Q E h =>
    Calls.callWith_builtin (Di _) (zE h (fun a s₁ h₁=>by rw [h₁.1];exact h₁.2) fun _ _ q=>q)
noncomputable def Ao7:BM -> String
  | .append=>"list.append"
  | .pop=>"list.pop"
  | .get2=>"dict.get"
  | .rstrip=>"str.rstrip"
noncomputable def Vh (m:BM):String × String:=(Ou m,Ao7 m)
theorem V4 (m:BM):PlainAttrs (Vh m).1:=by
  cases m <;> first | exact F.plainAttrs_list | exact F.plainAttrs_dict | exact F.plainAttrs_str
theorem Z5 (m:BM):Slot (Vh m).1 (Hd m).1 (Vh m).2:=by
  cases m
  · exact F.slot_list_append
  · exact F.slot_list_pop
  · exact F.slot_dict_get
  · exact F.slot_str_rstrip
set_option maxRecDepth 100000 in
theorem Z6 (m:BM):typeOf (.builtin (Vh m).2)=pure (.type "method_descriptor"):=by
  cases m <;> kernel_rfl
theorem Z7 {m:BM} {b:Val} {v:Value} (R:Rel cx H ρ s) (x:VR cx ρ s.heap b v) (h:Go m b H=some ()):s.TypeIs v (Vh m).1 /\ ∀ q,v=.ref q -> ∃ ob,s.heap.get? q=some ob /\ ob.dict=none:=by
  have h:=(Kz h).1
  show s.TypeIs v (Ou m) /\ _
  generalize Ou m=T at h
  cases x with
  | str y t z=>cases h;exact ⟨typeIs_str _ _ _,fun q e=>nomatch e⟩
  | @loc l p hp =>
    refine Zr (C:=fun T=>s.TypeIs (.ref p.1) T /\ ∀ q,Value.ref p.1=.ref q -> ∃ ob,s.heap.get? q=some ob /\ ob.dict=none) h (fun xs hl=>R8 R hl hp) fun es hl=>?_
    refine Af fun G kG=>?_
    refine ex1 (R.dictAt hl hp) fun xs zz=>An zz fun _ D _=>?_
    refine ex3 D fun o _ _ zz=>An zz fun g ex _=>?_
    refine kG ?_
    exact ⟨⟨_,g,ex.1⟩,fun q e=>by cases e;exact ⟨_,g,ex.2.1⟩⟩
  | _=>exact Ae h
theorem Yk {Φ:Funs} {Γ:Env'} {a:ME} {m:BM} {es:MEs} {o:Expr} {xs:List Expr} {apos pos:Pos} (hs:Cn o=true) (hp:B7 env xs) (hz:xs.length <= 20) (hn:xs=[] -> es=.nil) (hline:(apos.endLine == pos.line)=true)
    (x:Sim cx A P (eval o env) (Ak cx.T Φ a Γ) (Amb.vr cx)) (y:Sim cx A P (spliced (xs.map fun e=>(false,eval e env))) (evalEs cx.T Φ es Γ) (Amb.vrs cx))
    (k:∀ b v ms vs,ms.length=xs.length -> Sim cx A ((Amb.vr cx b v).and (Amb.vrs cx ms vs)) (call (.builtin (Vh m).2) (v :: vs)) (bmV m b ms) (Amb.vr cx)) (hlen:∀ H ms H',evalEs cx.T Φ es Γ H=.ok ms H' -> ms.length=xs.length) :
    Sim cx A P (eval (.Call (.Attribute o (Hd m).1 apos) xs [] pos) env) (Ak cx.T Φ (.bm a m es) Γ) (Amb.vr cx):=by
  intro H ρ s R p
  refine Nt (T:=(Vh m).1) (id:=(Vh m).2) hs hp hz hline (V4 m) (Z5 m) (Z6 m) (x H ρ s R p) fun b v H1 ρ1 s1 _ F1 R1 vr=>?_
  refine Gm.lookK fun _ fit=>?_
  obtain ⟨t1,t2⟩:=Z7 R1 vr fit
  refine Gm.mono (K:=fun Q E s=>wpAny (model cx.prog cx.w) A (callWith pos (.builtin (Vh m).2) [v] (xs.map fun e=>(false,eval e env)) []) Q E s) ?_ fun Q E h=>⟨t1,t2,h⟩
  refine Qc hn R1 (y H1 ρ1 s1 R1 (P.st _ _ _ _ p F1)) fun ms vs H2 ρ2 s2 e2 F2 R2 vrs=>?_
  exact k b v ms vs (hlen _ _ _ e2) H2 ρ2 s2 R2 ⟨vr.step F2.step,vrs⟩
end
section
variable {cx:Cx} {A:Around} {H:Hp} {ρ:Rho} {s:Shared}
theorem VRs.single {h:Heap} {ms:List Val} {vs:List Value} (y:VRs cx ρ h ms vs) (hl:ms.length=1):∃ m u,ms=[m] /\ vs=[u] /\ VR cx ρ h m u:=by
  cases y with
  | nil=>cases hl
  | cons y0 y =>
    cases y with
    | nil=>exact ⟨_,_,rfl,rfl,y0⟩
    | cons _ _=>cases hl
set_option tactic.hygienic true in
theorem R9 (b:Val) (v:Value) (ms:List Val) (vs:List Value) (hl:ms.length=1):Sim cx A ((Amb.vr cx b v).and (Amb.vrs cx ms vs)) (call (.builtin "list.append") (v :: vs)) (bmV .append b ms) (Amb.vr cx):=by
  intro H ρ s R ⟨x,y⟩
  refine ex2 (VRs.single y hl) fun m u zz=>An zz fun zr2 zr3 y0=>?_;subst zr2;subst zr3
  cases x with
  | @loc l p hp =>
    show Bf cx A (match H[l]? with
      | some (.list xs)=>if xs.length < lid then Res.ok Val.none (H.set l (.list (xs++[m]))) else .bad
      | some (.dict es)=>.bad
      | _=>.bad) _ _ ρ s
    split
    · rename_i xs e
      refine Af fun G kG=>?_
      refine ex2 (R.listAt e hp) fun ws n zz=>Cm zz fun hpp g r z=>?_
      refine kG ?_
      by_cases q:xs.length < lid
      · rw [if_pos q]
        rw [Ee] at q
        refine call_meets F.slot_list_append ⟨_,g,rfl⟩ F.entry_list_append (F.args_list_append_2 _ _) (list_append p.1 ws.toArray n u (Ke r z)) ⟨g,?_⟩
        exact Jl R hp hpp g (fun x=>x.push u) (by simpa using r.append (.one y0)) (by rw [List.length_append];exact q) fun _ _=>.none
      · rw [if_neg q];trivial
    · trivial
    · trivial
  | _=>trivial
set_option tactic.hygienic true in
theorem Ads (b:Val) (v:Value) (ms:List Val) (vs:List Value) (hl:ms.length=0):Sim cx A ((Amb.vr cx b v).and (Amb.vrs cx ms vs)) (call (.builtin "list.pop") (v :: vs)) (bmV .pop b ms) (Amb.vr cx):=by
  intro H ρ s R ⟨x,y⟩
  match ms,hl,y with
  | [],_,.nil =>
    cases x with
    | @loc l p hp =>
      show Bf cx A (match H[l]? with
        | some (.list xs)=>match xs.getLast? with
          | some v=>Res.ok v (H.set l (.list xs.dropLast))
          | none=>.bad
        | some (.dict es)=>.bad
        | _=>.bad) _ _ ρ s
      split
      · rename_i xs e
        refine ex2 (R.listAt e hp) fun ws n zz=>Cm zz fun hpp g r z=>?_
        split
        · rename_i m em
          rw [List.getLast?_eq_getElem?] at em
          refine ex1 (r.get em) fun u zz=>Ac zz fun eu vu=>?_
          have len:=r.length
          refine call_meets F.slot_list_pop ⟨_,g,rfl⟩ F.entry_list_pop (F.args_list_pop_1 _) (MeetsSeq.list_pop_last p.1 ws.toArray n u (by simpa [len] using eu) (Ke r z)) ⟨g,?_⟩
          refine Jl R hp hpp g (fun x=>x.eraseIdxIfInBounds (ws.toArray.size - 1)) ?_ (by rw [List.length_dropLast];exact o20 len z) fun h F=>vu.step F.step
          have e1:(ws.toArray.eraseIdxIfInBounds (ws.toArray.size - 1)).toList=ws.eraseIdx (ws.length - 1):=by simp
          have e2:∀ {α:Type} (l:List α),l.dropLast=l.eraseIdx (l.length - 1):=fun l=>by
            rw [List.dropLast_eq_take,List.eraseIdx_eq_take_drop_succ]
            rw [List.drop_eq_nil_of_le (by exact o21),List.append_nil]
          rw [e1,e2,<- len]
          exact r.eraseIdx _
        · trivial
      · trivial
      · trivial
    | _=>trivial
theorem Sa (b:Val) (v:Value) (ms:List Val) (vs:List Value) (hl:ms.length=0):Sim cx A ((Amb.vr cx b v).and (Amb.vrs cx ms vs)) (call (.builtin "str.rstrip") (v :: vs)) (bmV .rstrip b ms) (Amb.vr cx):=by
  intro H ρ s R ⟨x,y⟩
  match ms,hl,y with
  | [],_,.nil =>
    cases x with
    | str y t z =>
      show Bf cx A (if (Txt.rstrip y).length <= lid then Res.ok (Val.str (Txt.rstrip y)) H else .bad) _ _ ρ s
      by_cases q:(Txt.rstrip y).length <= lid
      · rw [if_pos q]
        rw [Ee] at q
        exact At R fun Q E k=>SC.rstrip (fun t' tk=>k _ _ (.str _ _ q)) z
      · rw [if_neg q];trivial
    | _=>simp only [bmV];(try split) <;> trivial
end
section
variable {prog:Program} {w:World} {K:Type} [DecidableEq K] {knd:HeapKind prog w K} {A:Around} {E:Value -> Shared -> Prop} {s:Shared}
end
section
variable {prog:Program} {w:World} {K:Type} [DecidableEq K] {knd:HeapKind prog w K}
theorem Nu {h:Heap} {xs:List (K × Addr × Value)} {k:K} {a:Addr} {v:Value} (ks:∀ x∈xs,knd.is h x.1 x.2.1) (hk:knd.is h k a):∀ x∈storedH xs k a v,knd.is h x.1 x.2.1:=by
  intro x hx
  unfold storedH at hx
  by_cases q:(atKey xs k).isSome=true
  · rw [if_pos q] at hx
    refine ex1 (List.mem_map.mp hx) fun y zz=>Ac zz fun hy hr0=>?_;refine hr0▸?_
    unfold putAt
    by_cases e:y.1=k
    · rw [if_pos e];exact ks y hy
    · rw [if_neg e];exact ks y hy
  · rw [if_neg q] at hx
    rcases List.mem_append.mp hx with hx | hx
    · exact ks x hx
    · rw [List.mem_singleton.mp hx];exact hk
end
section
variable {cx:Cx} {A:Around} {P:Amb} {H:Hp} {ρ:Rho} {s:Shared} {h:Heap}
theorem DRs.length {es:List (Key × Val)} {xs:List (List Int × Addr × Value)} (r:DRs cx ρ h es xs):xs.length=es.length:=by
  induction r with
  | nil=>rfl
  | cons _ _ _ ih=>exact congrArg (·+1) ih
theorem Adt {k k':Key} (q:¬ k'=k):¬ ([k'.1,k'.2]=[k.1,k.2]):=fun e=>q (by
  simp only [List.cons.injEq,and_true] at e
  exact Prod.ext e.1 e.2)
theorem DRs.put {es:List (Key × Val)} {xs:List (List Int × Addr × Value)} {k:Key} {a:Addr} {m:Val} {v:Value} (r:DRs cx ρ h es xs) (hn:(xs.map (·.1)).Nodup) (x:VR cx ρ h m v) (no:VR cx ρ h (Aa k) (.ref a)):DRs cx ρ h (Gk es k m) (storedH xs [k.1,k.2] a v):=by
  induction r with
  | nil=>exact .cons x no .nil
  | @cons k' v' b y es xs a' n r ih =>
    rw [List.map_cons,List.nodup_cons] at hn
    by_cases q:k'=k
    · refine q▸?_
      have e1:storedH (([k'.1,k'.2],b,y) :: xs) [k'.1,k'.2] a v=([k'.1,k'.2],b,v) :: xs:=by
        unfold storedH
        rw [if_pos (by simp [PySem.atKey]),List.map_cons]
        congr 1
        · simp [putAt]
        · refine (List.map_congr_left fun z hz=>?_).trans (List.map_id _)
          unfold putAt
          rw [if_neg fun e=>hn.1 (List.mem_map.mpr ⟨z,hz,e⟩)];rfl
      rw [e1]
      show DRs cx ρ h (if k'=k' then _ else _) _
      rw [if_pos rfl]
      exact .cons x n r
    · have q':=Adt q
      have e2:PySem.atKey (([k'.1,k'.2],b,y) :: xs) [k.1,k.2]=PySem.atKey xs [k.1,k.2]:=by
        unfold PySem.atKey
        rw [List.find?_cons]
        simp only [decide_eq_false q']
      have e1:storedH (([k'.1,k'.2],b,y) :: xs) [k.1,k.2] a v=([k'.1,k'.2],b,y) :: storedH xs [k.1,k.2] a v:=by
        unfold storedH
        rw [e2]
        split
        · rw [List.map_cons];congr 1
          unfold putAt;rw [if_neg q']
        · rfl
      rw [e1]
      show DRs cx ρ h (if k'=k then _ else _) _
      rw [if_neg q]
      exact .cons a' n (ih hn.2)
theorem DRs.sub {es:List (Key × Val)} {xs:List (List Int × Addr × Value)} {k:Key} {m:Val} (r:DRs cx ρ s.heap es xs) (h:Ec es k=some m):∃ p,PySem.atKey xs [k.1,k.2]=some p /\ VR cx ρ s.heap m p.2:=by
  have a:=r.atKey k
  rw [h] at a
  cases e:PySem.atKey xs [k.1,k.2] with
  | none=>rw [e] at a;exact a.elim
  | some p=>rw [e] at a;exact ⟨p,rfl,a⟩
theorem Nv (es:List (Key × Val)) (k:Key) (v:Val):(Gk es k v).length <= es.length+1:=by
  induction es with
  | nil=>exact zI _
  | cons e es ih =>
    show (if e.1=k then _ else _:List (Key × Val)).length <= _
    by_cases q:e.1=k
    · rw [if_pos q];exact Nat.le_succ _
    · rw [if_neg q];exact Nat.succ_le_succ ih
theorem V5 {l:Nat} {p:Addr × Addr} {es:List (Key × Val)} {xs:List (List Int × Addr × Value)} {h':Heap} {tk:Nat} (R:Rel cx H ρ s) (hl:ρ[l]?=some p) (hpp:p.2=p.1) (hm:h'.DictOfH (cellKind cx) p.1 xs) (hs:Heap.SameBut p.1 s.heap h')
    (hk:∀ x∈xs,(cellKind cx).is s.heap x.1 x.2.1) (r:DRs cx ρ s.heap es xs) (z:es.length <= sizeLine):Full ρ s.heap ρ h' /\ Rel cx (H.set l (.dict es)) ρ { s with heap:=h',toks:=tk }:=by
  have hm':=hm
  refine Af fun G kG=>?_
  refine ex3 hm fun o _ _ zz=>Ac zz fun e' _=>?_
  refine kG ?_
  have F:=Full.own ⟨p,zF hl,.inl rfl⟩ e' hs
  refine R.set hl (fun b ob eb n1 _=>by rw [hs.2 b n1];exact eb) (SameBut.live hs e') ?_
  obtain ⟨p1,p2⟩:=p
  dsimp only at hpp
  refine Eq.symm hpp▸?_
  exact .dict hm' (r.step F.step) z
theorem V6 {env:Env} {Φ:Funs} {Γ:Env'} {pos:Pos}:Sim cx A P (eval (.Dict [] [] pos) env) (Ak cx.T Φ .dict Γ) (Amb.vr cx):=by
  intro H ρ s R p
  refine wpAny_Dict_empty ?_
  have kp:∀ b o,s.heap.get? b=some o -> (s.heap.push { cls:=.type "dict",data:=.dict #[] }).get? b=some o:=fun b o e=>Heap.get?_push_of_some _ e
  obtain ⟨F,R'⟩:=R.alloc (tk:=s.toks) (o:=.dict []) (p:=(s.heap.objs.size,s.heap.objs.size)) kp ⟨Ao _,Ao _⟩
    (.dict (Heap.DictOfH.new _) .nil (Nat.zero_le _))
  refine ⟨_,F,R',?_⟩
  rw [R.len]
  exact VR.loc (p:=(s.heap.objs.size,s.heap.objs.size)) (by rw [List.getElem?_append_right (zI _)];simp)
theorem Z8 (hu:A.units+100 < cLine) (R:Rel cx H ρ s) {l:Nat} {p:Addr × Addr} {es:List (Key × Val)} {m m2:Val} {u u2:Value} {k:Key} (hp:ρ[l]?=some p) (e:H[l]?=some (.dict es)) (ek:Er m=some k) (y0:VR cx ρ s.heap m u) (y1:VR cx ρ s.heap m2 u2):Bf cx A (.ok ((Ec es k).getD m2) H) (call (.builtin "dict.get") [.ref p.1,u,u2]) (Amb.vr cx) ρ s:=by
  refine Af fun G kG=>?_
  refine ex1 (R.dictAt e hp) fun xs zz=>Cm zz fun _ D rr _=>?_
  refine ex1 (Oz y0 ek) fun bb zz=>An zz fun hr hk _=>?_
  refine kG ?_
  refine Eq.symm hr▸?_
  refine call_meetsIn F.slot_dict_get D.typeIs F.entry_dict_get (F.args_dict_get_3 _ _ _) (meetsH_dict_get_default (cellKind cx) p.1 bb (Ek R hp) u2) ⟨tupleKind_room_in1 (by exact o9 hu),_,xs,hk,D,?_⟩
  refine ⟨ρ,Full.refl _ _,R.toks _,?_⟩
  have a:=rr.atKey k
  cases eg:Ec es k with
  | none =>
    rw [eg] at a
    cases ea:PySem.atKey xs [k.1,k.2] with
    | none=>exact y1
    | some q=>rw [ea] at a;exact a.elim
  | some r =>
    refine ex1 (rr.sub eg) fun q zz=>Ac zz fun hq vr=>?_
    rw [hq];exact vr
theorem Z9 (hu:A.units+100 < cLine) (b:Val) (v:Value) (ms:List Val) (vs:List Value) (hl:ms.length=2):Sim cx A ((Amb.vr cx b v).and (Amb.vrs cx ms vs)) (call (.builtin "dict.get") (v :: vs)) (bmV .get2 b ms) (Amb.vr cx):=by
  intro H ρ s R xy
  obtain ⟨m,m2,hm⟩:∃ a b,ms=[a,b]:=by
    cases ms with
    | nil=>exact nomatch hl
    | cons a ms =>
      cases ms with
      | nil=>exact nomatch hl
      | cons b ms =>
        cases ms with
        | nil=>exact ⟨a,b,rfl⟩
        | cons _ _=>exact nomatch hl
  subst hm
  refine ex2 (VRs.two_inv xy.2) fun u u2 zz=>An zz fun hv y0 y1=>?_
  subst hv
  have x:VR cx ρ s.heap b v:=xy.1
  cases x with
  | @loc l p hp =>
    show Bf cx A (match H[l]? with
        | some (.list xs)=>.bad
        | some (.dict es)=>(match Er m with
          | some k=>Res.ok ((Ec es k).getD m2) H
          | none=>.bad)
        | _=>.bad) _ _ ρ s
    cases e:H[l]? with
    | none=>trivial
    | some o =>
      cases o with
      | dict es =>
        cases ek:Er m with
        | none=>trivial
        | some k=>exact Z8 hu R hp e ek y0 y1
      | _=>trivial
  | _=>trivial
end
section
variable {N:Names} {sc:Scope} {ns:List (Option Str)} {a b c:ME} {e:Expr} {es:MEs} {op op1 op2:COp}
theorem O2 (h:ck N sc ns .none e=true):∃ k pos,e=.Constant .none k pos:=by
  obtain ⟨t,h⟩:=Ab h
  exact ⟨_,_,t.2.trans (congrArg (fun c=>Expr.Constant c t.1.2.1 t.1.2.2) (Zv h))⟩
theorem O3 {v:Bool} (h:ck N sc ns (.bool v) e=true):∃ k pos,e=.Constant (.bool v) k pos:=by
  obtain ⟨t,h⟩:=Ab h
  obtain ⟨u,h⟩:=Ab h
  exact ⟨_,_,t.2.trans (congrArg (fun c=>Expr.Constant c t.1.2.1 t.1.2.2) (u.2.trans (congrArg Const.bool (eq_of_beq h).symm)))⟩
theorem Sb {v:Int} (h:ck N sc ns (.int v) e=true):∃ k pos,e=.Constant (.int v) k pos:=by
  obtain ⟨t,h⟩:=Ab h
  obtain ⟨u,h⟩:=Ab h
  exact ⟨_,_,t.2.trans (congrArg (fun c=>Expr.Constant c t.1.2.1 t.1.2.2) (u.2.trans (congrArg Const.int (of_decide_eq_true h).symm)))⟩
theorem Sc {v:Str} (h:ck N sc ns (.str v) e=true):∃ k pos,e=.Constant (.str v) k pos /\ v.length <= 1000:=by
  obtain ⟨t,h⟩:=Ab h
  obtain ⟨u,h⟩:=Ab h
  exact ⟨_,_,t.2.trans (congrArg (fun c=>Expr.Constant c t.1.2.1 t.1.2.2) (u.2.trans (congrArg Const.str (of_decide_eq_true (an1 h)).symm))),of_decide_eq_true (an2 h)⟩
theorem V7 {k:Nat} (h:ck N sc ns (.glob k) e=true):∃ x pos,e=.Name x pos /\ Bs sc x=true /\ Dz N.globs x k=true:=by
  obtain ⟨t,h⟩:=Ab h
  exact ⟨_,_,t.2,an1 h,an2 h⟩
theorem Sd {k:Nat} (h:ck N sc ns (.var k) e=true):∃ x pos,e=.Name x pos /\ Vt sc ns k x=true:=by
  obtain ⟨t,h⟩:=Ab h
  exact ⟨_,_,t.2,h⟩
theorem Se {op:BOp} (h:ck N sc ns (.bin op a b) e=true):∃ l o r pos,e=.BinOp l o r pos /\ Ae3 op o=true /\ ck N sc ns a l=true /\ ck N sc ns b r=true:=by
  obtain ⟨t,h⟩:=Ab h
  exact ⟨_,_,_,_,t.2,an1 (an1 h),an2 (an1 h),an2 h⟩
theorem Aaa (h:ck N sc ns (.neg a) e=true):∃ x pos,e=.UnaryOp .USub x pos /\ ck N sc ns a x=true:=by
  obtain ⟨t,h⟩:=Ab h
  exact ⟨_,_,t.2.trans (congrArg (fun o=>Expr.UnaryOp o t.1.2.1 t.1.2.2) (Zv (an1 h))),an2 h⟩
theorem Aab (h:ck N sc ns (.not a) e=true):∃ x pos,e=.UnaryOp .Not x pos /\ ck N sc ns a x=true:=by
  obtain ⟨t,h⟩:=Ab h
  exact ⟨_,_,t.2.trans (congrArg (fun o=>Expr.UnaryOp o t.1.2.1 t.1.2.2) (Zv (an1 h))),an2 h⟩
theorem Aac (h:ck N sc ns (.and a b) e=true):∃ x y rest pos,e=.BoolOp .And (x :: y :: rest) pos /\ ck N sc ns a x=true /\ ((rest=[] /\ ck N sc ns b y=true) \/ ck N sc ns b (.BoolOp .And (y :: rest) pos)=true):=by
  refine Af fun G kG=>?_
  obtain ⟨t,h⟩:=Ab h
  obtain ⟨⟨⟨x,y,rest⟩,z2⟩,h2⟩:=Ab (an2 h)
  refine kG ?_
  refine ⟨x,y,rest,t.1.2.2,t.2.trans ((congrArg (fun o=>Expr.BoolOp o t.1.2.1 t.1.2.2) (Zv (an1 h))).trans (congrArg (fun o=>Expr.BoolOp .And o t.1.2.2) z2)),an1 h2,?_⟩
  cases rest with
  | nil=>exact .inl ⟨rfl,an2 h2⟩
  | cons _ _=>exact .inr (an2 h2)
theorem Adu (h:ck N sc ns (.or a b) e=true):∃ x y rest pos,e=.BoolOp .Or (x :: y :: rest) pos /\ ck N sc ns a x=true /\ ((rest=[] /\ ck N sc ns b y=true) \/ ck N sc ns b (.BoolOp .Or (y :: rest) pos)=true):=by
  obtain ⟨t,h⟩:=Ab h
  obtain ⟨⟨⟨x,y,rest⟩,z2⟩,h2⟩:=Ab (an2 h)
  refine ⟨x,y,rest,t.1.2.2,t.2.trans ((congrArg (fun o=>Expr.BoolOp o t.1.2.1 t.1.2.2) (Zv (an1 h))).trans (congrArg (fun o=>Expr.BoolOp .Or o t.1.2.2) z2)),an1 h2,?_⟩
  cases rest with
  | nil=>exact .inl ⟨rfl,an2 h2⟩
  | cons _ _=>exact .inr (an2 h2)
theorem Sf (h:ck N sc ns (.cmp op a b) e=true):∃ l r pos,e=.Compare l [Iz op] [r] pos /\ ck N sc ns a l=true /\ ck N sc ns b r=true /\ Ed r=true:=by
  obtain ⟨t,h⟩:=Ab h
  obtain ⟨u,h2⟩:=Ab (an2 h)
  exact ⟨_,_,_,t.2.trans ((congrArg (fun o=>Expr.Compare t.1.1 o t.1.2.2.1 t.1.2.2.2) (of_decide_eq_true (an1 h))).trans (congrArg (fun o=>Expr.Compare t.1.1 _ o t.1.2.2.2) u.2)),an1 (an1 h2),an2 (an1 h2),an2 h2⟩
theorem V8 (h:ck N sc ns (.cmp2 op1 op2 a b c) e=true):∃ l m r pos,e=.Compare l [Iz op1,Iz op2] [m,r] pos /\ ck N sc ns a l=true /\ ck N sc ns b m=true /\ ck N sc ns c r=true /\ Ed r=true:=by
  obtain ⟨t,h⟩:=Ab h
  obtain ⟨u,h2⟩:=Ab (an2 h)
  exact ⟨_,_,_,_,t.2.trans ((congrArg (fun o=>Expr.Compare t.1.1 o t.1.2.2.1 t.1.2.2.2) (of_decide_eq_true (an1 h))).trans (congrArg (fun o=>Expr.Compare t.1.1 _ o t.1.2.2.2) u.2)),an1 (an1 (an1 h2)),an2 (an1 (an1 h2)),an2 (an1 h2),an2 h2⟩
theorem Aad (h:ck N sc ns (.sub a b) e=true):∃ v s pos,e=.Subscript v s pos /\ ck N sc ns a v=true /\ ck N sc ns b s=true:=by
  obtain ⟨t,h⟩:=Ab h
  exact ⟨_,_,_,t.2,an1 h,an2 h⟩
theorem Aae (h:ck N sc ns (.tup es) e=true):∃ xs k pos,e=.Tuple xs k pos /\ ckEs N sc ns es xs=true /\ xs.length <= 1000:=by
  obtain ⟨t,h⟩:=Ab h
  exact ⟨_,_,_,t.2,an1 h,of_decide_eq_true (an2 h)⟩
theorem V9 (h:ck N sc ns (.list es) e=true):∃ xs pos,e=.List xs pos /\ ckEs N sc ns es xs=true /\ xs.length <= 1000:=by
  obtain ⟨t,h⟩:=Ab h
  exact ⟨_,_,t.2,an1 h,of_decide_eq_true (an2 h)⟩
theorem Wa (h:ck N sc ns .dict e=true):∃ pos,e=.Dict [] [] pos:=by
  obtain ⟨t,h⟩:=Ab h
  exact ⟨t.1.2.2,t.2.trans (by rw [List.isEmpty_iff.mp (an1 h),List.isEmpty_iff.mp (an2 h)])⟩
theorem Wb {n:Nat} (h:ck N sc ns (.attr a n) e=true):∃ v y pos,e=.Attribute v y pos /\ ck N sc ns a v=true /\ Dz N.attrs y n=true /\ Cn v=true:=by
  obtain ⟨t,h⟩:=Ab h
  exact ⟨_,_,_,t.2,an1 (an1 h),an2 (an1 h),an2 h⟩
theorem O4 {f:Nat} (h:ck N sc ns (.call f es) e=true):∃ x np xs pos,e=.Call (.Name x np) xs [] pos /\ Bs sc x=true /\ Dz N.funs x f=true /\ ckEs N sc ns es xs=true /\ xs.length <= 20:=by
  obtain ⟨t,h⟩:=Ab h
  exact ⟨_,_,_,_,t.2,an1 (an1 (an1 h)),an2 (an1 (an1 h)),an2 (an1 h),of_decide_eq_true (an2 h)⟩
theorem Aaf {f:Nat} (h:ck N sc ns (.new f es) e=true):∃ x np xs pos,e=.Call (.Name x np) xs [] pos /\ Bs sc x=true /\ Dz N.clss x f=true /\ ckEs N sc ns es xs=true /\ xs.length <= 20:=by
  obtain ⟨t,h⟩:=Ab h
  exact ⟨_,_,_,_,t.2,an1 (an1 (an1 h)),an2 (an1 (an1 h)),an2 (an1 h),of_decide_eq_true (an2 h)⟩
theorem Sg {m:Nat} (h:ck N sc ns (.umeth a m es) e=true):∃ o y apos xs pos,e=.Call (.Attribute o y apos) xs [] pos /\ ck N sc ns a o=true /\ Dz N.meths y m=true /\ ckEs N sc ns es xs=true /\ xs.length <= 20 /\ Cn o=true /\ (apos.endLine == pos.line)=true:=by
  obtain ⟨t,h⟩:=Ab h
  exact ⟨_,_,_,_,_,t.2.1,an1 (an1 (an1 (an1 h))),an2 (an1 (an1 (an1 h))),an2 (an1 (an1 h)),of_decide_eq_true (an2 (an1 h)),an2 h,t.2.2⟩
theorem Adv {f:BF} (h:ck N sc ns (.bf f es) e=true):∃ x np xs pos,e=.Call (.Name x np) xs [] pos /\ Bs sc x=true /\ (Gq f).1=x /\ (Gq f).2=xs.length /\ ckEs N sc ns es xs=true:=by
  obtain ⟨t,h⟩:=Ab h
  exact ⟨_,_,_,_,t.2,an1 (an1 (an1 h)),of_decide_eq_true (an2 (an1 (an1 h))),of_decide_eq_true (an2 (an1 h)),an2 h⟩
theorem Yl {m:BM} (h:ck N sc ns (.bm a m es) e=true):∃ o y apos xs pos,e=.Call (.Attribute o y apos) xs [] pos /\ ck N sc ns a o=true /\ (Hd m).1=y /\ (Hd m).2=xs.length /\ ckEs N sc ns es xs=true /\ Cn o=true /\ (apos.endLine == pos.line)=true:=by
  obtain ⟨t,h⟩:=Ab h
  exact ⟨_,_,_,_,_,t.2.1,an1 (an1 (an1 (an1 h))),of_decide_eq_true (an2 (an1 (an1 (an1 h)))),of_decide_eq_true (an2 (an1 (an1 h))),an2 (an1 h),an2 h,t.2.2⟩
theorem Kf {t:Ty} (h:ck N sc ns (.isinst a t) e=true):∃ f np x y yp pos,e=.Call (.Name f np) [x,.Name y yp] [] pos /\ Bs sc f=true /\ f=("isinstance":Str) /\ Bs sc y=true /\ ck N sc ns a x=true /\ Ah9 N y t=true:=by
  refine Af fun G kG=>?_
  obtain ⟨p,h⟩:=Ab h
  obtain ⟨u,h⟩:=Ab h
  obtain ⟨w,h⟩:=Ab h
  refine kG ?_
  exact ⟨_,_,_,_,_,_,p.2.trans (congrArg (fun xs=>Expr.Call (.Name p.1.1 p.1.2.1) xs [] p.1.2.2.2) (u.2.trans (congrArg (fun y=>[u.1.1,y]) w.2))),an1 (an1 (an1 (an1 h))),of_decide_eq_true (an2 (an1 (an1 (an1 h)))),an2 (an1 (an1 h)),an2 (an1 h),an2 h⟩
theorem O5 {elt it:ME} {cond:MEo} (h:ck N sc ns (.comp elt it cond) e=true):∃ el x px i ifs csc pos,e=.ListComp el [⟨.Name x px,i,ifs,0⟩] csc pos /\ ck N sc ns it i=true /\ Ed i=true /\ Ji sc csc x=true /\
    ck N csc (D0 csc ns++[some x]) elt el=true /\ ckC N csc (D0 csc ns++[some x]) cond ifs=true:=by
  obtain ⟨t,h⟩:=Ab h
  obtain ⟨u,h⟩:=Ab h
  exact ⟨_,_,_,_,_,_,_,t.2.trans (congrArg (fun g=>Expr.ListComp t.1.1 g t.1.2.2.1 t.1.2.2.2) u.2),an1 (an1 (an1 (an1 h))),an2 (an1 (an1 (an1 h))),an2 (an1 (an1 h)),an2 (an1 h),an2 h⟩
noncomputable def Sh (comp:Bool):Expr -> Bool
  | .Constant ..=>true
  | .Name ..=>true
  | .BinOp ..=>true
  | .UnaryOp ..=>true
  | .BoolOp ..=>true
  | .Compare ..=>true
  | .Subscript ..=>true
  | .Tuple ..=>true
  | .List ..=>true
  | .Dict ..=>true
  | .Attribute ..=>true
  | .Call ..=>true
  | .ListComp ..=>comp
  | _=>false
noncomputable def Ym:ME -> Bool
  | .comp ..=>true
  | _=>false
theorem Be {e e':Expr} {c:Bool} (h:e=e') (k:Sh c e'=true):Sh c e=true:=h▸k
theorem Si {m:ME} (h:ck N sc ns m e=true):Sh (Ym m) e=true:=by
  cases m with
  | none=>obtain ⟨t,_⟩:=Ab h;exact Be t.2 rfl
  | bool v=>obtain ⟨t,_⟩:=Ab h;exact Be t.2 rfl
  | int v=>obtain ⟨t,_⟩:=Ab h;exact Be t.2 rfl
  | str v=>obtain ⟨t,_⟩:=Ab h;exact Be t.2 rfl
  | glob k=>obtain ⟨t,_⟩:=Ab h;exact Be t.2 rfl
  | var k=>obtain ⟨t,_⟩:=Ab h;exact Be t.2 rfl
  | bin op a b=>obtain ⟨t,_⟩:=Ab h;exact Be t.2 rfl
  | neg a=>obtain ⟨t,_⟩:=Ab h;exact Be t.2 rfl
  | not a=>obtain ⟨t,_⟩:=Ab h;exact Be t.2 rfl
  | and a b=>obtain ⟨t,_⟩:=Ab h;exact Be t.2 rfl
  | or a b=>obtain ⟨t,_⟩:=Ab h;exact Be t.2 rfl
  | cmp op a b=>obtain ⟨t,_⟩:=Ab h;exact Be t.2 rfl
  | cmp2 op1 op2 a b c=>obtain ⟨t,_⟩:=Ab h;exact Be t.2 rfl
  | sub a i=>obtain ⟨t,_⟩:=Ab h;exact Be t.2 rfl
  | tup es=>obtain ⟨t,_⟩:=Ab h;exact Be t.2 rfl
  | list es=>obtain ⟨t,_⟩:=Ab h;exact Be t.2 rfl
  | dict=>obtain ⟨t,_⟩:=Ab h;exact Be t.2 rfl
  | attr a n=>obtain ⟨t,_⟩:=Ab h;exact Be t.2 rfl
  | call f es=>obtain ⟨t,_⟩:=Ab h;exact Be t.2 rfl
  | new f es=>obtain ⟨t,_⟩:=Ab h;exact Be t.2 rfl
  | umeth a m es=>obtain ⟨t,_⟩:=Ab h;exact Be t.2.1 rfl
  | bf f es=>obtain ⟨t,_⟩:=Ab h;exact Be t.2 rfl
  | bm a m es=>obtain ⟨t,_⟩:=Ab h;exact Be t.2.1 rfl
  | isinst a t=>obtain ⟨t,_⟩:=Ab h;exact Be t.2 rfl
  | comp elt it cond=>obtain ⟨t,_⟩:=Ab h;exact Be t.2 rfl
end
noncomputable def Hx:Expr -> Bool
  | .Starred ..=>false
  | _=>true
theorem Br {e:Expr} {es:List Expr} {env:Env} (h:Hx e=true):starEach (e :: es) env=(false,eval e env) :: starEach es env:=by
  cases e <;> first | rfl | exact Am h
theorem A7 {N:Names} {sc:Scope} {ns:List (Option Str)} {m:ME} {e:Expr} (h:ck N sc ns m e=true):Hx e=true:=by
  have z:=Si h
  cases e <;> first | rfl | exact Am z
theorem Cb {N:Names} {sc:Scope} {ns:List (Option Str)} {env:Env}:∀ {ms:MEs} {xs:List Expr},ckEs N sc ns ms xs=true -> B7 env xs
  | .nil,[],_=>trivial
  | .nil,_ :: _,h=>by cases (show false=true from h)
  | .cons _ _,[],h=>by cases (show false=true from h)
  | .cons m ms,x :: xs,h=>by
    have h:=And.intro (an1 h) (an2 h)
    exact ⟨Br (A7 h.1),Cb h.2⟩
theorem E5 {N:Names} {sc:Scope} {ns:List (Option Str)} {ms:MEs} (h:ckEs N sc ns ms []=true):ms=.nil:=by
  cases ms with
  | nil=>rfl
  | cons _ _=>cases (show false=true from h)
theorem Ch {T:Tab} {Φ:Funs} {Γ:Env'} {N:Names} {sc:Scope} {ns:List (Option Str)}:∀ {ms:MEs} {xs:List Expr} {H H':Hp} {vs:List Val},ckEs N sc ns ms xs=true -> evalEs T Φ ms Γ H=.ok vs H' -> vs.length=xs.length
  | .nil,[],H,H',vs,_,e=>by cases (show Res.ok [] H=.ok vs H' from e);rfl
  | .nil,_ :: _,_,_,_,h,_=>by cases (show false=true from h)
  | .cons _ _,[],_,_,_,h,_=>by cases (show false=true from h)
  | .cons m ms,x :: xs,H,H',vs,h,e=>by
    have h:=And.intro (an1 h) (an2 h)
    rw [Vo] at e
    cases e1:Ak T Φ m Γ H with
    | bad=>rw [C9 e1] at e;exact D4 e
    | exc c H1=>rw [E2 e1] at e;exact J9 e
    | ok v H1 =>
      rw [Dt e1] at e
      cases e2:evalEs T Φ ms Γ H1 with
      | bad=>rw [C9 e2] at e;exact D4 e
      | exc c H2=>rw [E2 e2] at e;exact J9 e
      | ok vs' H2 =>
        rw [Dt e2] at e
        cases e
        rw [List.length_cons,List.length_cons,Ch h.2 e2]
section
variable {cx:Cx} {N:Names} {A:Around} {P:Amb} {env:Env} {Φ:Funs} {Γ:Env'}
theorem Sj:Sim cx A P (spliced (([]:List Expr).map fun e=>(false,eval e env))) (evalEs cx.T Φ .nil Γ) (Amb.vrs cx):=by
  intro H ρ s R p
  exact zH ⟨ρ,Full.refl _ _,R,.nil⟩
theorem O6 {m:ME} {ms:MEs} {e:Expr} {es:List Expr} (x:Sim cx A P (eval e env) (Ak cx.T Φ m Γ) (Amb.vr cx)) (y:Sim cx A P (spliced (es.map fun e=>(false,eval e env))) (evalEs cx.T Φ ms Γ) (Amb.vrs cx)) :
    Sim cx A P (spliced ((e :: es).map fun e=>(false,eval e env))) (evalEs cx.T Φ (.cons m ms) Γ) (Amb.vrs cx):=by
  intro H ρ s R p
  refine Bf.bindK (K':=fun Q E s=>wpAny (model cx.prog cx.w) A (spliced ((e :: es).map fun e=>(false,eval e env))) Q E s) (K:=fun v Q E s=>wpAny (model cx.prog cx.w) A (spliced (es.map fun e=>(false,eval e env))) (fun vs s'=>Q (v :: vs) s') E s) (x H ρ s R p) ?_ ?_ ?_
  · intro b v H1 ρ1 s1 _ F1 R1 vr
    refine Bf.bindK (K':=fun Q E s=>wpAny (model cx.prog cx.w) A (spliced (es.map fun e=>(false,eval e env))) (fun vs s'=>Q (v :: vs) s') E s) (K:=fun vs Q E s=>Q (v :: vs) s) (y H1 ρ1 s1 R1 (P.st _ _ _ _ p F1)) ?_ ?_ ?_
    · intro bs vs H2 ρ2 s2 _ F2 R2 vrs
      exact ⟨ρ2,Full.refl _ _,R2,.cons (vr.step F2.step) vrs⟩
    · exact fun vs Q E Q' E' s h k _=>k _ _ h
    · exact fun Q E h=>h
  · exact fun v Q E Q' E' s h k1 k2=>zE h (fun _ _=>k1 _ _) k2
  · exact fun Q E h=>Calls.spliced_cons h
theorem Aag {ms:MEs} {es:List Expr} {k:Nat} {pos:Pos} (hp:B7 env es) (hz:es.length <= 1000) (hlen:∀ H vs H',evalEs cx.T Φ ms Γ H=.ok vs H' -> vs.length=es.length) (y:Sim cx A P (spliced (es.map fun e=>(false,eval e env))) (evalEs cx.T Φ ms Γ) (Amb.vrs cx)) :
    Sim cx A P (eval (.Tuple es k pos) env) (Ak cx.T Φ (.tup ms) Γ) (Amb.vr cx):=by
  intro H ρ s R p
  refine Bf.bindK (K':=fun Q E s=>wpAny (model cx.prog cx.w) A (eval (.Tuple es k pos) env) Q E s) (K:=fun vs Q E s₁=>vs.length <= sizeLine /\ Q (.ref s₁.heap.objs.size) { s₁ with heap:=s₁.heap.push (Ox vs 0) }) (y H ρ s R p) ?_ ?_ ?_
  · intro bs vs H1 ρ1 s1 e1 F1 R1 vrs
    have z:bs.length <= sizeLine:=by rw [hlen _ _ _ e1,sizeLine_eq];exact o22 hz
    have F:=Full.push ρ1 s1.heap (Ox vs 0)
    exact ⟨by rw [<- vrs.length];exact z,ρ1,F,R1.push _ _,.tup (Heap.get?_push_size _ rfl) (R1.fresh_not (Ao _)) z (vrs.step F.step)⟩
  · exact fun vs Q E Q' E' s h k1 _=>⟨h.1,k1 _ _ h.2⟩
  · exact fun Q E h=>wpAny_Tuple (by rw [Ap pos hp];exact h)
theorem Wc {ms:MEs} {es:List Expr} {pos:Pos} (hp:B7 env es) (hz:es.length <= 1000) (hlen:∀ H vs H',evalEs cx.T Φ ms Γ H=.ok vs H' -> vs.length=es.length) (y:Sim cx A P (spliced (es.map fun e=>(false,eval e env))) (evalEs cx.T Φ ms Γ) (Amb.vrs cx)) :
    Sim cx A P (eval (.List es pos) env) (Ak cx.T Φ (.list ms) Γ) (Amb.vr cx):=by
  intro H ρ s R p
  refine Bf.bindK (K':=fun Q E s=>wpAny (model cx.prog cx.w) A (eval (.List es pos) env) Q E s) (K:=fun vs Q E s₁=>vs.length <= sizeLine /\ Q (.ref s₁.heap.objs.size) { s₁ with heap:=s₁.heap.push (Bq vs 0) }) (y H ρ s R p) ?_ ?_ ?_
  · intro bs vs H1 ρ1 s1 e1 F1 R1 vrs
    have z:bs.length <= sizeLine:=by rw [hlen _ _ _ e1,sizeLine_eq];exact o22 hz
    refine Gm.andK (by rw [<- vrs.length];exact z) ?_
    exact R1.newList s1.toks vrs z
  · exact fun vs Q E Q' E' s h k1 _=>⟨h.1,k1 _ _ h.2⟩
  · exact fun Q E h=>wpAny_List (by rw [Ap pos hp];exact h)
end
structure FullS (env:Env) (ρ:Rho) (h:Heap) (ρ':Rho) (h':Heap):Prop where
  grow:Jh ρ h ρ'
  keep:∀ b o,h.get? b=some o -> ¬ Av ρ b -> b≠env.locals -> (∀ y,env.cells.lookup y≠some b) -> ∃ o',h'.get? b=some o' /\ D5 o o'
  live:E1 h h'
theorem Full.toS {env:Env} {ρ ρ':Rho} {h h':Heap} (x:Full ρ h ρ' h'):FullS env ρ h ρ' h':=⟨x.grow,fun b o e n _ _=>x.keep b o e n,x.live⟩
theorem FullS.refl (env:Env) (ρ:Rho) (h:Heap):FullS env ρ h ρ h:=(Full.refl ρ h).toS
theorem FullS.trans {env:Env} {ρ ρ' ρ'':Rho} {h h' h'':Heap} (x:FullS env ρ h ρ' h') (y:FullS env ρ' h' ρ'' h''):FullS env ρ h ρ'' h'' :=
  ⟨x.grow.trans y.grow x.live,fun b o e n n1 n2=>by
      refine ex1 (x.keep b o e n n1 n2) fun o' zz=>Ac zz fun e' u=>?_
      refine ex1 (y.keep b o' e' (x.grow.not n e) n1 n2) fun o'' zz=>Ac zz fun e'' u'=>?_
      exact ⟨o'',e'',u.trans u'⟩,x.live.trans y.live⟩
section
variable {cx:Cx} {N:Names} {A:Around} {env:Env} {sc:Scope} {ns:List (Option Str)}
theorem EnvSt.notLoc {ρ:Rho} {h:Heap} (x:EnvSt cx env sc ρ h) {b:Addr} {o:Obj} (e:h.get? b=some o) (n:∀ es k,o.data≠.dict es k):b≠env.locals:=fun q=>by
  refine ex1 x.loc fun m zz=>ex3 zz fun ob es ep zz=>An zz fun e' d _=>?_
  rw [<- q,e] at e';cases e'
  exact n _ _ d
theorem EnvSt.notCell {ρ:Rho} {h:Heap} (x:EnvSt cx env sc ρ h) {b:Addr} {o:Obj} (e:h.get? b=some o) (n:∀ v,o.data≠.cell v) (y:Str):env.cells.lookup y≠some b:=fun q=>by
  obtain ⟨⟨v,ob,e',d⟩,_⟩:=x.cells y b q
  rw [e] at e';cases e'
  exact n _ d
theorem FullS.step {ρ ρ':Rho} {h h':Heap} (x:EnvSt cx env sc ρ h) (F:FullS env ρ h ρ' h'):Step ρ h ρ' h':=by
  refine ⟨let ⟨e,h1,_⟩:=F.grow;⟨e,h1⟩,fun b o e f n=>⟨?_,F.grow.not n e⟩,fun b o C e c n=>?_⟩
  · obtain ⟨o',e',u⟩:=F.keep b o e n (x.notLoc e f.notDict) (x.notCell e fun v q=>by rcases f with ⟨_,_,_,f⟩ | ⟨_,_,f⟩ <;> rw [q] at f <;> cases f)
    rw [e',u.exact f.notDict]
  · obtain ⟨o',e',u⟩:=F.keep b o e n (x.notLoc e c.notDict) (x.notCell e fun v q=>by obtain ⟨_,⟨_,f⟩,_⟩:=c;rw [q] at f;cases f)
    rw [u.exact c.notDict] at e'
    exact ⟨o,e',c,F.grow.not n e⟩
noncomputable def Bt (cx:Cx) (A:Around) (env:Env) (sc:Scope) (ns:List (Option Str)) (r:ResS) (t:Sem Flow) (ρ:Rho) (s:Shared):Prop :=
  match r with
  | .bad=>True
  | .next Γ' H'=>wpAny (model cx.prog cx.w) A t (fun f s'=>f=.next /\ ∃ ρ',FullS env ρ s.heap ρ' s'.heap /\ Rel cx H' ρ' s' /\ EnvOk cx env sc ns Γ' ρ' s'.heap) (fun _ _=>False) s
  | .ret v H'=>wpAny (model cx.prog cx.w) A t (fun f s'=>∃ v' ρ',f=.ret v' /\ FullS env ρ s.heap ρ' s'.heap /\ Rel cx H' ρ' s' /\ (VR cx ρ' s'.heap v v' /\ EnvSt cx env sc ρ' s'.heap)) (fun _ _=>False) s
  | .exc c Γ' H'=>wpAny (model cx.prog cx.w) A t (fun _ _=>False) (fun e s'=>∃ ρ',FullS env ρ s.heap ρ' s'.heap /\ Rel cx H' ρ' s' /\ EnvOk cx env sc ns Γ' ρ' s'.heap /\ Flying cx ρ' s.heap s'.heap c e) s
noncomputable def Gv (cx:Cx) (A:Around) (l:List Env) (env:Env) (sc:Scope) (ns:List (Option Str)) (t:Sem Flow) (m:Env' -> Hp -> ResS):Prop :=
  ∀ (Γ:Env') (H:Hp) (ρ:Rho) (s:Shared),Rel cx H ρ s -> EnvOk cx env sc ns Γ ρ s.heap -> Aw cx l ρ s.heap -> Bt cx A env sc ns (m Γ H) t ρ s
theorem Bt.bind {α β:Type} {t:Sem α} {m:M β} {V:β -> α -> Amb} {Γ:Env'} {H:Hp} {ρ:Rho} {s:Shared} {t':Sem Flow} {g:β -> Hp -> ResS} {K:α -> Sem Flow} (e0:EnvOk cx env sc ns Γ ρ s.heap) (x:Bf cx A (m H) t V ρ s)
    (y:∀ b a H' ρ' s',m H=.ok b H' -> Full ρ s.heap ρ' s'.heap -> Rel cx H' ρ' s' -> EnvOk cx env sc ns Γ ρ' s'.heap -> (V b a).P ρ' s'.heap -> Bt cx A env sc ns (g b H') (K a) ρ' s')
    (k:∀ Q E,wpAny (model cx.prog cx.w) A t (fun a s'=>wpAny (model cx.prog cx.w) A (K a) Q E s') E s -> wpAny (model cx.prog cx.w) A t' Q E s) :
    Bt cx A env sc ns (Gl m Γ g H) t' ρ s:=by
  unfold Gl
  cases e:m H with
  | bad=>trivial
  | exc c H' =>
    rw [e] at x
    refine k _ _ (zE x (fun _ _ q=>q.elim) fun ex s' ⟨ρ',F,R,fl⟩=>⟨ρ',F.toS,R,e0.full F,fl⟩)
  | ok b H' =>
    rw [e] at x
    show Bt cx A env sc ns (g b H') t' ρ s
    cases e2:g b H' with
    | bad=>trivial
    | next Γ2 H2 =>
      refine k _ _ (zE x (fun a s' ⟨ρ',F,R,v⟩=>?_) fun _ _ q=>q.elim)
      have z:=y b a H' ρ' s' e F R (e0.full F) v
      rw [e2] at z
      exact zE z (fun f s'' ⟨h1,ρ'',F',R',e'⟩=>⟨h1,ρ'',F.toS.trans F',R',e'⟩) fun _ _ q=>q.elim
    | ret v2 H2 =>
      refine k _ _ (zE x (fun a s' ⟨ρ',F,R,v⟩=>?_) fun _ _ q=>q.elim)
      have z:=y b a H' ρ' s' e F R (e0.full F) v
      rw [e2] at z
      exact zE z (fun f s'' ⟨v',ρ'',h1,F',R',e'⟩=>⟨v',ρ'',h1,F.toS.trans F',R',e'⟩) fun _ _ q=>q.elim
    | exc c2 Γ2 H2 =>
      refine k _ _ (zE x (fun a s' ⟨ρ',F,R,v⟩=>?_) fun _ _ q=>q.elim)
      have z:=y b a H' ρ' s' e F R (e0.full F) v
      rw [e2] at z
      exact zE z (fun _ _ q=>q) fun ex s'' ⟨ρ'',F',R',e',fl⟩=>⟨ρ'',F.toS.trans F',R',e',fl.older F.live⟩
theorem D7 {Γ:Env'} {H:Hp} {ρ:Rho} {s:Shared} {i:Nat} {y:Str} {mv:Val} {v:Value} {Q:Unit -> Shared -> Prop} {E:Value -> Shared -> Prop} (hlen:Γ.length=ns.length) (hnd:∀ (i j:Nat) (y:Str),ns[i]?=some (some y) -> ns[j]?=some (some y) -> i=j)
    (R:Rel cx H ρ s) (e0:EnvOk cx env sc ns Γ ρ s.heap) (ho:Fm sc ns i y=true) (hv:VR cx ρ s.heap mv v)
    (k:∀ h' tk,FullS env ρ s.heap ρ h' -> Rel cx H ρ { s with heap:=h',toks:=tk } -> EnvOk cx env sc ns (Γ.set i (some mv)) ρ h' ->
      (∃ q o,((sc.names.lookup y=some .local /\ q=env.locals) \/ (sc.names.lookup y=some .cell /\ env.cells.lookup y=some q)) /\ Heap.SameBut q s.heap h' /\ h'.get? q=some o) -> Q () { s with heap:=h',toks:=tk }) :
    wpAny (model cx.prog cx.w) A (storeName env y v) Q E s:=by
  have hown:(sc.names.lookup y=some .local \/ sc.names.lookup y=some .cell) /\ ns[i]?=some (some y):=by
    exact ⟨Rv (an1 ho),of_decide_eq_true (an2 ho)⟩
  obtain ⟨hk,hi⟩:=hown
  have hiΓ:i < Γ.length:=by rw [hlen];exact (List.getElem?_eq_some_iff.mp hi).1
  have set_i:(Γ.set i (some mv))[i]?=some (some mv):=by rw [List.getElem?_set_self hiΓ]
  have set_j:∀ j,j≠i -> (Γ.set i (some mv))[j]?=Γ[j]?:=fun j hj=>List.getElem?_set_ne (fun q=>hj q.symm)
  rcases hk with hk | hk
  · have kd:env.kindOf y=some .local:=e0.st.kinds y _ hk
    obtain ⟨m,hm⟩:=e0.st.loc
    refine wpAny_storeName_local kd hm (fun h' hn hs=>?_) (by rw [e0.st.fn];rfl)
    refine ex3 (id hm) fun o es ep zz=>An zz fun eo d _=>?_
    refine ex3 (id hn) fun o' es' ep' zz=>An zz fun eo' d' _=>?_
    have n1:¬ Fk o:=fun f=>f.notDict _ _ d
    have n2:∀ C,¬ C7 o C:=fun C f=>f.notDict _ _ d
    have St:Step ρ s.heap ρ h':=Step.but eo' eo hs n1 n2
    have notc:∀ z c,env.cells.lookup z=some c -> c≠env.locals:=fun z c hc q=>by
      obtain ⟨⟨v,ob,e',dc⟩,_⟩:=e0.st.cells z c hc
      rw [q,eo] at e';cases e'
      rw [d] at dc;cases dc
    refine (fun a b c=>k h' (s.toks+1) a b c ⟨env.locals,o',.inl ⟨hk,rfl⟩,hs,eo'⟩) ⟨Jh.refl _ _,fun b ob eb _ nb _=>⟨ob,by rw [hs.2 b nb];exact eb,.refl ob⟩,SameBut.live hs eo'⟩ (R.but eo' eo hs n1 n2 e0.st.locN e0.st.locB) ⟨?_,by rw [List.length_set];exact hlen,?_⟩
    · refine ⟨e0.st.fn,e0.st.glob,e0.st.blt,e0.st.kinds,⟨_,hn⟩,e0.st.locN,e0.st.locB,fun z c hc=>?_,e0.st.hasCell,e0.st.apart⟩
      refine An (e0.st.cells z c hc) fun zn0 c1 c2=>?_;obtain ⟨u,hu⟩:=zn0
      exact ⟨⟨u,Bi hu fun ob eb=>⟨ob,by rw [hs.2 c (notc z c hc)];exact eb,rfl⟩⟩,c1,c2⟩
    · intro j z mz hj hz
      by_cases q:j=i
      · subst q
        rw [set_i] at hz;cases hz
        rw [hi] at hj;cases hj
        exact ⟨v,.inl ⟨kd,_,hn,by simp⟩,hv.step St⟩
      · rw [set_j j q] at hz
        refine ex1 (e0.vals j z mz hj hz) fun u zz=>Ac zz fun hu ru=>?_
        have zy:z≠y:=fun e=>q (hnd j i y (e▸hj) hi)
        refine ⟨u,?_,ru.step St⟩
        rcases hu with ⟨kz,m',hm',ez⟩ | ⟨kz,c,hc,ez⟩
        · refine .inl ⟨kz,_,hn,?_⟩
          refine Af fun G kG=>?_
          refine ex3 hm' fun o2 es2 ep2 zz=>Cm zz fun eo2 d2 _ f2=>?_
          refine ex3 hm fun o3 es3 ep3 zz=>Cm zz fun eo3 d3 _ f3=>?_
          refine kG ?_
          rw [eo2] at eo3;cases eo3
          rw [d2] at d3;cases d3
          simp only [if_neg zy]
          rw [<- f3 z,f2 z];exact ez
        · exact .inr ⟨kz,c,hc,Bi ez fun ob eb=>⟨ob,by rw [hs.2 c (notc z c hc)];exact eb,rfl⟩⟩
  · have kd:env.kindOf y=some .cell:=e0.st.kinds y _ hk
    refine Af fun G kG=>?_
    obtain ⟨c,hc⟩:=e0.st.hasCell y (.inl hk)
    refine An (e0.st.cells y c hc) fun zn0 cn cb=>?_;obtain ⟨u0,hu0⟩:=zn0
    refine kG ?_
    refine wpAny_storeName_cell e0.st.fn kd hc hu0 fun h' hn hs=>?_
    refine Af fun G kG=>?_
    refine ex1 (id hu0) fun o zz=>Ac zz fun eo d=>?_
    refine ex1 (id hn) fun o' zz=>Ac zz fun eo' d'=>?_
    refine kG ?_
    have n1:¬ Fk o:=fun f=>by rcases f with ⟨_,_,_,f⟩ | ⟨_,_,f⟩ <;> rw [d] at f <;> cases f
    have n2:∀ C,¬ C7 o C:=fun C f=>by refine An f fun _ zn1 _=>?_;obtain ⟨_,f⟩:=zn1;rw [d] at f;cases f
    have St:Step ρ s.heap ρ h':=Step.but eo' eo hs n1 n2
    have notl:env.locals≠c:=fun q=>by
      refine ex1 e0.st.loc fun m zz=>ex3 zz fun ob es ep zz=>An zz fun e' dl _=>?_
      rw [q,eo] at e';cases e'
      rw [d] at dl;cases dl
    have locK:∀ ob,s.heap.get? env.locals=some ob -> ∃ o',h'.get? env.locals=some o' /\ o'.data=ob.data:=fun ob eb=>⟨ob,by rw [hs.2 _ notl];exact eb,rfl⟩
    refine (fun a b c'=>k h' s.toks a b c' ⟨c,o',.inr ⟨hk,hc⟩,hs,eo'⟩) ⟨Jh.refl _ _,fun b ob eb _ _ nb=>⟨ob,by rw [hs.2 b (fun q=>nb y (q▸hc))];exact eb,.refl ob⟩,SameBut.live hs eo'⟩ (R.but eo' eo hs n1 n2 cn cb) ⟨?_,by rw [List.length_set];exact hlen,?_⟩
    · obtain ⟨m,hm⟩:=e0.st.loc
      refine ⟨e0.st.fn,e0.st.glob,e0.st.blt,e0.st.kinds,⟨m,Bh hm locK⟩,e0.st.locN,e0.st.locB,fun z c' hc'=>?_,e0.st.hasCell,e0.st.apart⟩
      refine An (e0.st.cells z c' hc') fun zn0 c1 c2=>?_;obtain ⟨u,hu⟩:=zn0
      by_cases q:c'=c
      · subst q;exact ⟨⟨_,hn⟩,c1,c2⟩
      · exact ⟨⟨u,Bi hu fun ob eb=>⟨ob,by rw [hs.2 c' q];exact eb,rfl⟩⟩,c1,c2⟩
    · intro j z mz hj hz
      by_cases q:j=i
      · subst q
        rw [set_i] at hz;cases hz
        rw [hi] at hj;cases hj
        exact ⟨v,.inr ⟨.inl kd,c,hc,hn⟩,hv.step St⟩
      · rw [set_j j q] at hz
        refine ex1 (e0.vals j z mz hj hz) fun u zz=>Ac zz fun hu ru=>?_
        have zy:z≠y:=fun e=>q (hnd j i y (e▸hj) hi)
        refine ⟨u,?_,ru.step St⟩
        rcases hu with ⟨kz,m',hm',ez⟩ | ⟨kz,c',hc',ez⟩
        · exact .inl ⟨kz,m',Bh hm' locK,ez⟩
        · have cc:c'≠c:=fun e=>zy (e0.st.apart z y c' hc' (e▸hc))
          exact .inr ⟨kz,c',hc',Bi ez fun ob eb=>⟨ob,by rw [hs.2 c' cc];exact eb,rfl⟩⟩
end
structure Off (cx:Cx) (ρ:Rho) (h g g':Heap):Prop where
  old:∀ b o o0,g.get? b=some o -> h.get? b=some o0 -> ∃ o',g'.get? b=some o' /\ D5 o o'
  own:∀ b o,g.get? b=some o -> Av ρ b -> g'.get? b=some o
  base:∀ b o o0,g.get? b=some o -> cx.h₀.get? b=some o0 -> g'.get? b=some o
  fix:∀ b o,g.get? b=some o -> Fk o -> g'.get? b=some o
  exc:∀ b o C,g.get? b=some o -> C7 o C -> ∃ o',g'.get? b=some o' /\ C7 o' C
  cell:∀ b o v,g.get? b=some o -> o.data=.cell v -> g'.get? b=some o
  dict:∀ b o es n,g.get? b=some o -> o.data=.dict es n -> ∃ o',g'.get? b=some o' /\ D5 o o'
  live:E1 g g'
section
variable {cx:Cx} {ρ ρ₀:Rho} {h g g' g'':Heap} {H:Hp} {s:Shared} {env:Env} {sc:Scope} {ns:List (Option Str)} {Γ:Env'} {l:List Env}
theorem Off.refl:Off cx ρ h g g:=⟨fun _ o _ e _=>⟨o,e,.refl o⟩,fun _ _ e _=>e,fun _ _ _ e _=>e,fun _ _ e _=>e,fun _ o _ e x=>⟨o,e,x⟩,fun _ _ _ e _=>e,fun _ o _ _ e _=>⟨o,e,.refl o⟩,.refl g⟩
theorem Off.trans (x:Off cx ρ h g g') (y:Off cx ρ h g' g''):Off cx ρ h g g'':=by
  refine ⟨fun b o o0 e e0=>?_,fun b o e w=>y.own b o (x.own b o e w) w,fun b o o0 e e0=>y.base b o o0 (x.base b o o0 e e0) e0,fun b o e f=>y.fix b o (x.fix b o e f) f,fun b o C e f=>?_,fun b o v e d=>y.cell b o v (x.cell b o v e d) d,fun b o es n e d=>?_,x.live.trans y.live⟩
  · refine ex1 (x.old b o o0 e e0) fun o1 zz=>Ac zz fun e1 u1=>?_
    refine ex1 (y.old b o1 o0 e1 e0) fun o2 zz=>Ac zz fun e2 u2=>?_
    exact ⟨o2,e2,u1.trans u2⟩
  · refine ex1 (x.exc b o C e f) fun o1 zz=>Ac zz fun e1 f1=>?_
    exact y.exc b o1 C e1 f1
  · refine ex1 (x.dict b o es n e d) fun o1 zz=>Ac zz fun e1 u1=>?_
    refine ex1 (y.dict b o1 es n e1 (u1.data.trans d)) fun o2 zz=>Ac zz fun e2 u2=>?_
    exact ⟨o2,e2,u1.trans u2⟩
theorem Off.step (x:Off cx ρ h g g'):Step ρ g ρ g':=⟨⟨[],by simp⟩,fun b o e f n=>⟨x.fix b o e f,n⟩,fun b o C e c n=>by refine ex1 (x.exc b o C e c) fun o' zz=>Ac zz fun e' c'=>?_;exact ⟨o',e',c',n⟩⟩
theorem Off.rel {h':Heap} (x:Off cx ρ h s.heap h') (R:Rel cx H ρ s):Rel cx H ρ { s with heap:=h' } :=
  R.same (tk:=s.toks) x.step (fun b o w e=>x.own b o e w) fun b o e=>x.base b o o (R.base b o e) e
theorem Off.full (x:Off cx ρ h g g') (F:Full ρ₀ h ρ g):Full ρ₀ h ρ g':=⟨F.grow,fun b o e n=>by
    refine Af fun G kG=>?_
    refine ex1 (F.keep b o e n) fun o1 zz=>Ac zz fun e1 u1=>?_
    refine ex1 (x.old b o1 o e1 e) fun o2 zz=>Ac zz fun e2 u2=>?_
    refine kG ?_
    exact ⟨o2,e2,u1.trans u2⟩,F.live.trans x.live⟩
theorem Off.fullS (x:Off cx ρ h g g') (F:FullS env ρ₀ h ρ g):FullS env ρ₀ h ρ g':=⟨F.grow,fun b o e n n1 n2=>by
    refine ex1 (F.keep b o e n n1 n2) fun o1 zz=>Ac zz fun e1 u1=>?_
    refine ex1 (x.old b o1 o e1 e) fun o2 zz=>Ac zz fun e2 u2=>?_
    exact ⟨o2,e2,u1.trans u2⟩,F.live.trans x.live⟩
theorem Off.nsK (x:Off cx ρ h g g') {a:Addr} {m:Str -> Option Value} (n:g.Ns a m):g'.Ns a m:=by
  refine ex3 n fun o es ep zz=>An zz fun e d r=>?_
  refine ex1 (x.dict a o _ _ e d) fun o' zz=>Ac zz fun e' u=>?_
  exact ⟨o',es,ep,e',u.data.trans d,r⟩
theorem Off.isCell (x:Off cx ρ h g g') {a:Addr} {v:Option Value} (n:g.IsCell a v):g'.IsCell a v:=by
  refine ex1 n fun o zz=>Ac zz fun e d=>?_
  exact ⟨o,x.cell a o _ e d,d⟩
theorem Off.envK (x:Off cx ρ h g g') (w:EnvOk cx env sc ns Γ ρ g):EnvOk cx env sc ns Γ ρ g':=by
  obtain ⟨m,hm⟩:=w.st.loc
  refine ⟨⟨w.st.fn,w.st.glob,w.st.blt,w.st.kinds,⟨m,x.nsK hm⟩,w.st.locN,w.st.locB,fun y c hc=>?_,w.st.hasCell,w.st.apart⟩,w.len,fun i y mv hi hm=>?_⟩
  · refine An (w.st.cells y c hc) fun zn0 n b=>?_;obtain ⟨v,hv⟩:=zn0
    exact ⟨⟨v,x.isCell hv⟩,n,b⟩
  · refine ex1 (w.vals i y mv hi hm) fun v zz=>Ac zz fun hv r=>?_
    refine ⟨v,?_,r.step x.step⟩
    rcases hv with ⟨k,m,hm,e⟩ | ⟨k,c,hc,e⟩
    · exact .inl ⟨k,m,x.nsK hm,e⟩
    · exact .inr ⟨k,c,hc,x.isCell e⟩
theorem Off.frames (x:Off cx ρ h g g') (w:Aw cx l ρ g):Aw cx l ρ g':=fun env he=>by
  refine Af fun G kG=>?_
  refine Ac (w env he) fun k zz=>ex2 zz fun L o zz=>Fo zz fun h1 h2 h3 zn6 h6=>?_;obtain ⟨es,n,h5⟩:=zn6
  refine ex1 (x.dict L o es n h3 h5) fun o' zz=>Ac zz fun e' u=>?_
  refine kG ?_
  exact ⟨k,L,o',h1,h2,e',⟨es,n,u.data.trans h5⟩,h6⟩
theorem Off.push (o:Obj):Off cx ρ h g (g.push o):=by
  have k:∀ b o',g.get? b=some o' -> (g.push o).get? b=some o':=fun b o' e=>Heap.get?_push_of_some o e
  exact ⟨fun b o _ e _=>⟨o,k b o e,.refl o⟩,fun b o e _=>k b o e,fun b o _ e _=>k b o e,fun b o e _=>k b o e,fun b o _ e x=>⟨o,k b o e,x⟩,fun b o _ e _=>k b o e,fun b o _ _ e _=>⟨o,k b o e,.refl o⟩,fun b o e=>⟨o,k b o e⟩⟩
theorem Off.upd {a:Addr} {o:Obj} {vs:Array Value} {f:Array Value -> Array Value} (e:g.get? a=some o) (d:o.data=.fields vs) (hn:h.get? a=none) (hb:cx.h₀.get? a=none) (no:¬ Av ρ a) (nf:¬ Fk o):Off cx ρ h g (g.update a (Obj.mapFields f)):=by
  have self:=Heap.get?_update_self (h:=g) (Obj.mapFields f) e (Obj.isFreed_of_fields (Obj.data_mapFields d f))
  have k:∀ b o',b≠a -> g.get? b=some o' -> (g.update a (Obj.mapFields f)).get? b=some o':=fun b o' n e'=>(Heap.get?_update_other _ _ (Ne.symm n)).trans e'
  have is:∀ b o',g.get? b=some o' -> b=a -> o'=o:=fun b o' e' q=>by rw [q,e] at e';cases e';rfl
  refine ⟨fun b ob o0 eb e0=>⟨ob,k b ob (fun q=>by rw [q,hn] at e0;cases e0) eb,.refl ob⟩,fun b ob eb w=>k b ob (fun q=>no (q▸w)) eb,fun b ob o0 eb e0=>k b ob (fun q=>by rw [q,hb] at e0;cases e0) eb,
    fun b ob eb fx=>k b ob (fun q=>nf (is b ob eb q▸fx)) eb,fun b ob C eb x=>?_,fun b ob v eb db=>k b ob (fun q=>by rw [is b ob eb q,d] at db;cases db) eb,fun b ob es n eb db=>⟨ob,k b ob (fun q=>by rw [is b ob eb q,d] at db;cases db) eb,.refl ob⟩,fun b ob eb=>?_⟩
  · by_cases q:b=a
    · subst q
      rw [e] at eb;cases eb
      exact ⟨_,self,(Obj.cls_mapFields _ _).trans x.1,⟨_,Obj.data_mapFields d f⟩,by obtain ⟨c,dd,dt,sl⟩:=o;cases d;exact x.2.2⟩
    · exact ⟨ob,k b ob q eb,x⟩
  · by_cases q:b=a
    · refine Eq.symm q▸?_;exact ⟨_,self⟩
    · exact ⟨ob,k b ob q eb⟩
theorem Off.slots {S:List Addr} (x:Heap.SlotsOnly S g g') (fr:∀ b∈S,cx.h₀.get? b=none /\ ¬ Av ρ b /\ ∀ o,g.get? b=some o -> ∃ es n,o.data=.dict es n):Off cx ρ h g g':=by
  have k:∀ b o,b ∉ S -> g.get? b=some o -> g'.get? b=some o:=fun b o n e=>(x.2.1 b n).trans e
  have up:∀ b o,g.get? b=some o -> ∃ o',g'.get? b=some o' /\ D5 o o':=fun b o e=>by
    by_cases m:b∈S
    · obtain ⟨sl,e'⟩:=x.2.2 b o e
      exact ⟨_,e',.inr ⟨(fr b m).2.2 o e,rfl⟩⟩
    · exact ⟨o,k b o m e,.refl o⟩
  refine ⟨fun b o _ e _=>up b o e,fun b o e w=>k b o (fun m=>(fr b m).2.1 w) e,fun b o o0 e e0=>k b o (fun m=>by rw [(fr b m).1] at e0;cases e0) e,fun b o e f=>k b o (fun m=>?_) e,fun b o C e f=>⟨o,k b o (fun m=>?_) e,f⟩,fun b o v e d=>k b o (fun m=>?_) e,fun b o es n e _=>up b o e,fun b o e=>?_⟩
  · refine ex2 ((fr b m).2.2 o e) fun es n d=>?_
    exact f.notDict es n d
  · refine ex2 ((fr b m).2.2 o e) fun es n d=>?_
    exact f.notDict es n d
  · refine ex2 ((fr b m).2.2 o e) fun es n d'=>?_
    rw [d] at d';cases d'
  · refine ex1 (up b o e) fun o' zz=>Ac zz fun e' _=>?_
    exact ⟨o',e'⟩
structure Flown (cx:Cx) (ρ:Rho) (h h':Heap) (c:Nat) (e:Value):Prop where
  is:∃ (a C:Addr) (vs:Array Value) (tb:Addr) (tvs:Array Value),e=.ref a /\ cx.cls[c]?=some (.ref C) /\ h.get? a=none /\ h'.get? a=some { cls:=.ref C,dict:=none,data:=.fields vs,slots:=#[] } /\ vs.size=6 /\ ¬ Av ρ a /\
    vs[1]?=some (.ref tb) /\ h.get? tb=none /\ h'.get? tb=some { cls:=.type "traceback",dict:=none,data:=.fields tvs,slots:=#[] } /\ tvs.size=11 /\ ¬ Av ρ tb
theorem Flown.to {c:Nat} {e:Value} (x:Flown cx ρ h g c e):Flying cx ρ h g c e:=by
  refine ex5 x.is fun a C vs tb tvs zz=>Nj zz fun h1 h2 h3 h4 h5 h6 h7=>?_
  exact ⟨a,C,vs,h1,h2,h3,h4,h5,h6,.inr ⟨tb,tvs,h7⟩⟩
theorem Flown.vr {c:Nat} {e:Value} (x:Flown cx ρ h g c e):VR cx ρ g (.exc c) e:=by
  refine ex5 x.is fun a C vs tb tvs zz=>Nj zz fun hr0 h2 h3 h4 h5 h6 _=>?_;refine Eq.symm hr0▸?_
  exact .exc h4 h6 h2 ⟨rfl,⟨_,rfl⟩,rfl⟩
theorem K9 {C:Addr} {vs:Array Value}:¬ Fk { cls:=.ref C,dict:=none,data:=.fields vs,slots:=#[] }:=by
  rintro (⟨q,_⟩ | ⟨q,_⟩) <;> cases q
theorem Ip {vs:Array Value}:¬ Fk { cls:=.type "traceback",dict:=none,data:=.fields vs,slots:=#[] }:=by
  rintro (⟨q,_⟩ | ⟨q,_⟩)
  · exact absurd (show Value.type "traceback"=Value.type "tuple" from q) (by decide)
  · exact absurd (show Value.type "traceback"=Value.type "range" from q) (by decide)
theorem Qd (w:Aw cx l ρ g):g.FunFrames cx.h₀ l:=by
  induction l with
  | nil=>trivial
  | cons env l ih =>
    refine Af fun G kG=>?_
    refine Ac (w env (.head _)) fun k zz=>ex2 zz fun L o zz=>Fo zz fun h1 h2 h3 zn6 _=>?_;obtain ⟨es,n,h5⟩:=zn6
    refine kG ?_
    exact ⟨k,⟨L,o,h1,h2,h3,fun vs q=>by rw [h5] at q;cases q⟩,ih fun e he=>w e (.tail _ he)⟩
theorem Kg (w:Aw cx l ρ g):∀ b∈l.filterMap (·.frame),cx.h₀.get? b=none /\ ¬ Av ρ b /\ ∀ o,g.get? b=some o -> ∃ es n,o.data=.dict es n:=fun b hb=>by
  refine Af fun G kG=>?_
  refine ex1 (List.mem_filterMap.mp hb) fun env zz=>Ac zz fun he hf=>?_
  refine Ac (w env he) fun k zz=>ex2 zz fun L o zz=>Fo zz fun h1 h2 h3 h5 h6=>?_
  refine kG ?_
  rw [h1] at hf;cases hf
  exact ⟨h2,h6,fun o' e'=>by rw [h3] at e';cases e';exact h5⟩
end
section
variable {cx:Cx} {ρ:Rho} {h:Heap} {A:Around} {env:Env} {outer:List Env} {L:Addr} {s:Shared} {Q:Unit -> Shared -> Prop} {E:Value -> Shared -> Prop} {c:Nat} {e:Value} {H:Hp}
theorem O7 {a C:Addr} {vs:Array Value} {head:Value} {hn:Bool} (hfr:A.frames=some (env :: outer)) (hf:env.frame=some L) (w:Aw cx (env :: outer) ρ s.heap) (R:Rel cx H ρ s) (lb:E1 cx.h₀ h) (lh:E1 h s.heap) (hC:cx.cls[c]?=some (.ref C)) (ha:h.get? a=none) (ga:s.heap.get? a=some { cls:=.ref C,dict:=none,data:=.fields vs,slots:=#[] }) (hz:vs.size=6) (no:¬ Av ρ a)
    (k:∀ h',Off cx ρ h s.heap h' -> Flown cx ρ h h' c (.ref a) -> Q () { s with heap:=h' }) :
    wpAny (model cx.prog cx.w) A (do let x <- frameOf env;let pl <- entryPlaceOf L hn;let b <- EntryCells.newEntry head x .none (rawInt L) .none pl;setField (.ref a) 1 b) Q E s:=by
  refine zB (wpAny_frameOf_fun hfr (Qd w) hf fun h₁ hs=>?_)
  have o1:Off cx ρ h s.heap h₁:=Off.slots hs (Kg w)
  refine zB (wpAny_entryPlaceOf fun pl hpl=>?_)
  unfold EntryCells.newEntry newFields
  refine zB (wpAny_newObj_type ?_ (hpl.sizeOk5 _ _ _ _ _))
  have na:a ∉ (env :: outer).filterMap (·.frame):=fun m=>by
    refine ex2 ((Kg w a m).2.2 _ ga) fun es n d=>?_
    cases d
  have ga1:h₁.get? a=some { cls:=.ref C,dict:=none,data:=.fields vs,slots:=#[] }:=(hs.2.1 a na).trans ga
  generalize ht:({ cls:=.type "traceback",dict:=none,data:=.fields ([head,.ref L,.none,rawInt L,.none]++(if pl.isEmpty then List.replicate 6 Value.none else pl)).toArray }:Obj)=t
  have sz:([head,.ref L,.none,rawInt L,.none]++(if pl.isEmpty then List.replicate 6 Value.none else pl)).toArray.size=11:=by
    rcases hpl with rfl | ⟨_,_,_,_,_,_,_,rfl⟩ <;> rfl
  have ga2:(h₁.push t).get? a=some { cls:=.ref C,dict:=none,data:=.fields vs,slots:=#[] }:=Heap.get?_push_of_some t ga1
  refine wpAny_setField ga2 rfl (by exact o23 hz) ?_
  have ne:h₁.objs.size≠a:=Nat.ne_of_gt (Heap.lt_size ga1)
  have gt:(h₁.push t).get? h₁.objs.size=some t:=Heap.get?_push_size h₁ (by rw [<- ht];rfl)
  have R1:Rel cx H ρ { s with heap:=h₁ }:=o1.rel R
  have hb:cx.h₀.get? a=none:=lb.none ha
  have o2:Off cx ρ h s.heap ((h₁.push t).update a (Obj.mapFields (·.setIfInBounds 1 (Value.ref h₁.objs.size)))):=(o1.trans (Off.push t)).trans (Off.upd ga2 rfl ha hb no K9)
  refine k _ o2 ⟨a,C,vs.setIfInBounds 1 (.ref h₁.objs.size),h₁.objs.size,_,rfl,hC,ha,Heap.get?_update_self _ ga2 rfl,by rw [Array.size_setIfInBounds];exact hz,no,?_,?_,((Heap.get?_update_other _ _ (Ne.symm ne)).trans gt).trans (congrArg some ht.symm),sz,R1.fresh_not (Ao h₁)⟩
  · rw [Array.getElem?_setIfInBounds_self_of_lt (by exact o23 hz)]
  · refine lh.none ?_
    rw [hs.1];exact Ao s.heap
theorem Nw (hfr:A.frames=some (env :: outer)) (hf:env.frame=some L) (w:Aw cx (env :: outer) ρ s.heap) (R:Rel cx H ρ s) (lb:E1 cx.h₀ h) (lh:E1 h s.heap) (fl:Flying cx ρ h s.heap c e)
    (k:∀ h',Off cx ρ h s.heap h' -> Flown cx ρ h h' c e -> Q () { s with heap:=h' }):wpAny (model cx.prog cx.w) A (noteFrame e env) Q E s:=by
  refine Af fun G kG=>?_
  refine ex3 fl.is fun a C vs zz=>Nj zz fun zr3 hC ha ga hz no h7=>?_;subst zr3
  refine kG ?_
  unfold noteFrame
  simp only [hf]
  rcases h7 with h1 | ⟨tb,tvs,h1,htb,gtb,hzt,not⟩
  · refine zB (wpAny_field ga rfl h1 ?_)
    exact O7 hfr hf w R lb lh hC ha ga hz no k
  · refine zB (wpAny_field ga rfl h1 ?_)
    obtain ⟨x3,h3⟩:∃ x,tvs[3]?=some x:=⟨_,Array.getElem?_eq_getElem (by exact o24 hzt)⟩
    refine zB (wpAny_field gtb rfl h3 ?_)
    by_cases q:(x3 == rawInt L)=true
    · rw [if_pos q]
      exact zH (k _ Off.refl ⟨a,C,vs,tb,tvs,rfl,hC,ha,ga,hz,no,h1,htb,gtb,hzt,not⟩)
    · rw [if_neg q]
      refine zB (wpAny_setField gtb rfl (by exact o24 hzt) ?_)
      have o1:Off cx ρ h s.heap (s.heap.update tb (Obj.mapFields (·.setIfInBounds 3 Value.none))):=Off.upd gtb rfl htb (lb.none htb) not Ip
      have ne:tb≠a:=fun q=>by rw [q,ga] at gtb;exact nomatch gtb
      exact O7 (s:={ s with heap:=s.heap.update tb (Obj.mapFields (·.setIfInBounds 3 Value.none)) }) hfr hf (o1.frames w) (o1.rel R) lb (lh.trans o1.live) hC ha ((Heap.get?_update_other _ _ ne).trans ga) hz no fun h' o' fl'=>k h' (o1.trans o') fl'
theorem Et {fr:Option Addr} (lb:E1 cx.h₀ h) (fl:Flown cx ρ h s.heap c e) (k:∀ h',Off cx ρ h s.heap h' -> Flown cx ρ h h' c e -> Q () { s with heap:=h' }):wpAny (model cx.prog cx.w) A (setFlight e fr) Q E s:=by
  refine Af fun G kG=>?_
  refine ex5 fl.is fun a C vs tb tvs zz=>Vl zz fun zr5 hC ha ga hz no h1 htb gtb hzt not=>?_;subst zr5
  refine kG ?_
  unfold setFlight
  refine zB (wpAny_field ga rfl h1 ?_)
  refine wpAny_setField gtb rfl (by exact o24 hzt) ?_
  have ne:tb≠a:=fun q=>by rw [q,ga] at gtb;exact nomatch gtb
  exact k _ (Off.upd gtb rfl htb (lb.none htb) not Ip) ⟨a,C,vs,tb,_,rfl,hC,ha,(Heap.get?_update_other _ _ ne).trans ga,hz,no,h1,htb,Heap.get?_update_self _ gtb rfl,by rw [Array.size_setIfInBounds];exact hzt,not⟩
theorem Qe (hfr:A.frames=some (env :: outer)) (hf:env.frame=some L) (w:Aw cx (env :: outer) ρ s.heap) (R:Rel cx H ρ s) (lb:E1 cx.h₀ h) (lh:E1 h s.heap) (fl:Flying cx ρ h s.heap c e)
    (k:∀ h',Off cx ρ h s.heap h' -> Flown cx ρ h h' c e -> Q () { s with heap:=h' }):wpAny (model cx.prog cx.w) A (leaving env e) Q E s:=by
  unfold leaving
  exact zB (Nw hfr hf w R lb lh fl fun h1 o1 fl1=>Et (s:={ s with heap:=h1 }) lb fl1 fun h2 o2 fl2=>k h2 (o1.trans o2) fl2)
theorem Aah (lb:E1 cx.h₀ h) (fl:Flown cx ρ h s.heap c e) (k:∀ h',Off cx ρ h s.heap h' -> Flown cx ρ h h' c e -> E e { s with heap:=h' }):cameBackBy (model cx.prog cx.w) A env E e s:=by
  refine Af fun G kG=>?_
  refine ex5 fl.is fun a C vs tb tvs zz=>Vl zz fun zr5 hC ha ga hz no h1 htb gtb hzt not=>?_;subst zr5
  refine kG ?_
  unfold cameBackBy
  refine zB (wpAny_field ga rfl h1 ?_)
  exact Et lb ⟨a,C,vs,tb,tvs,rfl,hC,ha,ga,hz,no,h1,htb,gtb,hzt,not⟩ fun h' o' fl'=>k h' o' fl'
end
noncomputable def Hh (cx:Cx) (Φ:Funs) (d:Nat):Prop :=
  ∀ (k:Nat) (a:Addr) (args:List Val) (vals:List Value) (A:Around) (l:List Env),cx.fns[k]?=some a -> RoomF A d -> A.frames=some l ->
    Sim cx A ((Amb.vrs cx args vals).and (Amb.frames cx l)) (call (.ref a) vals) (Φ k args) (Amb.vr cx)
section
variable {cx:Cx} {N:Names} {A:Around} {env:Env} {sc:Scope} {ns:List (Option Str)} {Γ:Env'} {Φ:Funs} {d:Nat} {l:List Env}
theorem Base.func (B:Base cx N) {k:Nat} {a:Addr} (hk:cx.fns[k]?=some a) (hd:∃ f,cx.T.funs[k]?=some f):∃ o fd,cx.h₀.get? a=some o /\ o.data=.func fd:=by
  refine Af fun G kG=>?_
  obtain ⟨f,hf⟩:=hd
  refine ex4 ((B.fns k a f hk hf).is) fun o fd body ns zz=>Cm zz fun e _ d _=>?_
  refine kG ?_
  exact ⟨o,fd,e,d⟩
theorem Mj (B:Base cx N) {f:Nat} (hΦ:∀ a args vals,cx.fns[f]?=some a -> Sim cx A ((Amb.vrs cx args vals).and (Amb.frames cx l)) (call (.ref a) vals) (Φ f args) (Amb.vr cx)) {x:Str} {xs:List Expr} {es:MEs} {np pos:Pos} (hg:Bs sc x=true) (hk:Dz N.funs x f=true) (hex:∃ g,cx.T.funs[f]?=some g) (hes:ckEs N sc ns es xs=true)
    (y:Sim cx A ((Amb.env cx env sc ns Γ).and (Amb.frames cx l)) (spliced (xs.map fun e=>(false,eval e env))) (evalEs cx.T Φ es Γ) (Amb.vrs cx)) :
    Sim cx A ((Amb.env cx env sc ns Γ).and (Amb.frames cx l)) (eval (.Call (.Name x np) xs [] pos) env) (Ak cx.T Φ (.call f es) Γ) (Amb.vr cx):=by
  refine Af fun G kG=>?_
  refine ex2 B.ns fun mg mb zz=>Cm zz fun ng nb q _=>?_
  refine ex1 (q x f (Co hk)) fun a zz=>Ac zz fun ha hx=>?_
  refine ex2 (B.func ha hex) fun o fd zz=>Ac zz fun ho hd=>?_
  refine kG ?_
  intro H ρ s R p
  refine Gm.mono (Fr (f:=.ref a) (K:=fun vs Q E s=>(s.heap.get? a=some o /\ o.data=.func fd) /\ wpAny (model cx.prog cx.w) A (call (.ref a) vs) Q E s) (fun e=>E5 (e▸hes)) R (y H ρ s R p) ?_ ?_) ?_
  · intro ms vs H1 ρ1 s1 _ F1 R1 vrs
    exact Gm.andK ⟨R1.base _ _ ho,hd⟩ (hΦ a ms vs ha H1 ρ1 s1 R1 ⟨vrs,(Amb.frames cx l).st _ _ _ _ p.2 F1⟩)
  · exact fun vs Q E Q' E' s h k1 k2=>⟨h.1,zE h.2 k1 k2⟩
  · intro Q E h
    refine wpAny_Call_ofName (wp_glob R p.1.st hg ng nb (.inl hx) ?_)
    rw [Ap pos (Cb hes)]
    exact Calls.callWith_function (o:=o) (fd:=fd) (zE h (fun b s₁ h₁=>by rw [h₁.1];exact h₁.2) fun _ _ q=>q)
theorem El {α:Type}:∀ {ns:List Str} {vs:List α} {i:Nat} {y:Str} {v:α},ns.Nodup -> ns[i]?=some y -> vs[i]?=some v -> (ns.zip vs).lookup y=some v
  | [],_,_,_,_,_,h,_=>by simp at h
  | _ :: _,[],_,_,_,_,_,h=>by simp at h
  | n :: ns,u :: vs,0,y,v,_,h1,h2=>by simp at h1 h2;subst h1 h2;simp [List.zip_cons_cons]
  | n :: ns,u :: vs,i+1,y,v,nd,h1,h2=>by
    simp at h1 h2
    have ne:(y == n)=false:=by
      have:y∈ns:=zF h1
      simpa using fun e:y=n=>(List.nodup_cons.mp nd).1 (e▸this)
    rw [List.zip_cons_cons,List.lookup_cons,ne]
    exact El (List.nodup_cons.mp nd).2 h1 h2
theorem La:∀ {ns:List Str} {vs:List Value},ns.Nodup -> vs.length=ns.length -> (ns.filterMap fun n=>((ns.zip vs).lookup n).map (n,·))=ns.zip vs:=by
  have gen:∀ (ns:List Str) (vs:List Value) (look:Str -> Option Value),vs.length=ns.length -> (∀ (i:Nat) (y:Str) (v:Value),ns[i]?=some y -> vs[i]?=some v -> look y=some v) -> (ns.filterMap fun n=>(look n).map (n,·))=ns.zip vs:=by
    intro ns
    induction ns with
    | nil=>intro vs look _ _;rfl
    | cons n ns ih =>
      intro vs look hl k
      cases vs with
      | nil=>simp at hl
      | cons v vs =>
        have e:=k 0 n v (by simp) (by simp)
        rw [List.filterMap_cons,e]
        simp only [Option.map_some,List.zip_cons_cons]
        rw [ih vs look (by simpa using hl) fun i y u h1 h2=>k (i+1) y u (by simpa using h1) (by simpa using h2)]
  intro ns vs nd hl
  exact gen ns vs _ hl fun i y v h1 h2=>El nd h1 h2
theorem Sk {α:Type} {c:Prop} [Decidable c] {x y r:α} (h:¬ c) (k:y=r):(if c then x else y)=r:=(if_neg h).trans k
theorem J5 {fd:FuncData} {vals:List Value} {names:List Str} (h1:fd.params.posonlyargs=[]) (h2:fd.params.args.map (·.arg)=names) (h3:fd.params.vararg=none) (h4:fd.params.kwonlyargs=[]) (h5:fd.params.kwarg=none) (h6:fd.defaults=.none)
    (nd:names.Nodup) (hl:vals.length=names.length):bindArgs fd ⟨vals,[]⟩=pure (names.zip vals):=by
  have hmiss:∀ k:Nat,((names.take k).filter fun n=>((names.zip vals).lookup n).isNone)=[]:=by
    intro k
    rw [List.filter_eq_nil_iff]
    intro n hn
    obtain ⟨i,hi⟩:=List.mem_iff_getElem?.mp (List.mem_of_mem_take hn)
    have lt:i < vals.length:=by rw [hl];exact (List.getElem?_eq_some_iff.mp hi).1
    rw [El nd hi (List.getElem?_eq_getElem lt)]
    simp
  have hf:=La nd hl
  obtain ⟨_,_,⟨po,ar,va,kw,kd,ka,de⟩,_,_,_,_,df,_⟩:=fd
  cases h1;cases h3;cases h4;cases h5;cases h6
  subst h2
  refine Sk (fun w=>?_) ?_
  · rw [Bool.and_eq_true] at w
    exact absurd (of_decide_eq_true w.1) (by rw [hl];exact Nat.lt_irrefl _)
  refine Sk (fun w=>?_) ?_
  · have e:=hmiss ((List.map (·.arg) ar).length - (List.drop (0 - (List.map (·.arg) ar).length) ([]:List Value)).length)
    exact Bool.false_ne_true ((congrArg (fun l=>!List.isEmpty l) e).symm.trans w)
  have z:∀ (X:List Str) (n:Nat),X.zip (List.drop n ([]:List Value))=[]:=fun X n=>by rw [List.drop_nil,List.zip_nil_right]
  refine Eq.trans (congrArg (fun (l:List (Str × Value))=>Bind.bind (forIn l _ _) _) (z (List.drop _ (List.map (·.arg) ar)) _)) ?_
  refine Eq.trans ?_ (congrArg pure hf)
  exact congrArg (fun l=>(pure (List.filterMap (fun n=>Option.map (fun x=>(n,x)) (List.lookup n (List.zip (List.map (fun x=>x.arg) ar) vals))) l):Sem (List (Str × Value)))) (List.append_nil _)
set_option tactic.hygienic true in
theorem Eu:∀ {names:List (Str × NameKind)} {n:Nat} {acc:List (Str × Addr)} {y:Str},((y,NameKind.cell)∈names \/ (acc.lookup y).isSome=true) -> ((cellsFrom n names acc).lookup y).isSome=true
  | [],_,_,_,h=>by
    rcases h with h | h
    · cases h
    · exact h
  | (z,k) :: r,n,acc,y,h=>by
    unfold cellsFrom
    split
    · rename_i hk
      refine Eu ?_
      rcases h with h | h
      · rcases List.mem_cons.mp h with e | h
        · cases e;right;simp
        · exact .inl h
      · right
        rw [List.lookup_cons]
        split
        · rfl
        · exact h
    · rename_i hk
      refine Eu ?_
      rcases h with h | h
      · rcases List.mem_cons.mp h with e | h
        · cases e;simp at hk
        · exact .inl h
      · exact .inr h
theorem Sl {kd:Str -> Option NameKind}:∀ {binds:List (Str × Value)} {m:Str -> Option Value} {y:Str} {v:Value},(binds.map (·.1)).Nodup -> (y,v)∈binds -> kd y=some .local -> bindL kd binds m y=some v:=by
  have keep:∀ (binds:List (Str × Value)) (m:Str -> Option Value) (y:Str),y ∉ binds.map (·.1) -> bindL kd binds m y=m y:=by
    intro binds
    induction binds with
    | nil=>intro m y _;rfl
    | cons b r ih =>
      intro m y hy
      obtain ⟨n,v⟩:=b
      simp only [List.map_cons,List.mem_cons,not_or] at hy
      unfold bindL
      rw [ih _ _ hy.2]
      split
      · simp [hy.1]
      · rfl
  intro binds
  induction binds with
  | nil=>intro m y v _ h _;cases h
  | cons b r ih =>
    intro m y v nd h hk
    obtain ⟨n,u⟩:=b
    rw [List.map_cons,List.nodup_cons] at nd
    unfold bindL
    rcases List.mem_cons.mp h with e | h
    · cases e
      rw [keep _ _ _ nd.1,if_pos hk]
      simp
    · exact ih nd.2 h hk
theorem Sm {kd:Str -> Option NameKind}:∀ {binds:List (Str × Value)} {m:Str -> Option Value} {y:Str} {v:Value},(binds.map (·.1)).Nodup -> (y,v)∈binds -> kd y≠some .local -> bindC kd binds m y=some v:=by
  have keep:∀ (binds:List (Str × Value)) (m:Str -> Option Value) (y:Str),y ∉ binds.map (·.1) -> bindC kd binds m y=m y:=by
    intro binds
    induction binds with
    | nil=>intro m y _;rfl
    | cons b r ih =>
      intro m y hy
      obtain ⟨n,v⟩:=b
      simp only [List.map_cons,List.mem_cons,not_or] at hy
      unfold bindC
      rw [ih _ _ hy.2]
      split
      · rfl
      · simp [hy.1]
  intro binds
  induction binds with
  | nil=>intro m y v _ h _;cases h
  | cons b r ih =>
    intro m y v nd h hk
    obtain ⟨n,u⟩:=b
    rw [List.map_cons,List.nodup_cons] at nd
    unfold bindC
    rcases List.mem_cons.mp h with e | h
    · cases e
      rw [keep _ _ _ nd.1,if_neg hk]
      simp
    · exact ih nd.2 h hk
noncomputable def Yn (cx:Cx) (N:Names) (Φ:Funs) (d:Nat):Prop :=
  ∀ (body:MSs) (stmts:List Stmt) (env:Env) (sc:Scope) (ns:List (Option Str)) (A:Around) (l:List Env),ckSs N sc ns body stmts=true -> (∀ (i j:Nat) (y:Str),ns[i]?=some (some y) -> ns[j]?=some (some y) -> i=j) -> Room A d -> A.frames=some (env :: l) ->
    env.frame=some env.locals -> Gv cx A (env :: l) env sc ns (execs stmts env) (execSs cx.T Φ body)
theorem Gf:∀ {ns:List (Option Str)},Io ns=true -> ∀ (i j:Nat) (y:Str),ns[i]?=some (some y) -> ns[j]?=some (some y) -> i=j
  | [],_,i,_,_,h,_=>by simp at h
  | none :: r,nd,i,j,y,h1,h2=>by
    cases i with
    | zero=>simp at h1
    | succ i=>cases j with
      | zero=>simp at h2
      | succ j=>simp at h1 h2;rw [Gf (by simpa [Io] using nd) i j y h1 h2]
  | some x :: r,nd,i,j,y,h1,h2=>by
    simp only [Io,Bool.and_eq_true,Bool.not_eq_true',List.contains_eq_mem,decide_eq_false_iff_not] at nd
    cases i with
    | zero =>
      cases j with
      | zero=>rfl
      | succ j =>
        simp at h1 h2
        subst h1
        exact absurd (zF h2) nd.1
    | succ i =>
      cases j with
      | zero =>
        simp at h1 h2
        subst h2
        exact absurd (zF h1) nd.1
      | succ j =>
        simp at h1 h2
        rw [Gf nd.2 i j y h1 h2]
theorem Mk {ns:List Str} (h:∀ (i j:Nat) (y:Str),(ns.map some)[i]?=some (some y) -> (ns.map some)[j]?=some (some y) -> i=j):ns.Nodup:=by
  refine List.pairwise_iff_getElem.mpr fun i j hi hj lt e=>?_
  have:=h i j ns[i] (by rw [List.getElem?_map,List.getElem?_eq_getElem hi];rfl) (by rw [List.getElem?_map,List.getElem?_eq_getElem hj,e];rfl)
  exact o25 lt this
theorem Sn {f:MFun} {names:List Str} {params:Arguments} {body:List Stmt} {sc:Scope} (h:ckF N f names params body sc=true) :
    f.arity+f.nvars=names.length /\ names.take f.arity=params.args.map (·.arg) /\ params.posonlyargs=[] /\ params.vararg=none /\ params.kwonlyargs=[] /\ params.kwarg=none /\ Io (names.map some)=true /\
      sc.isCoroutine=false /\ sc.isGenerator=false /\ sc.kind=.function /\ ckSs N sc (names.map some) f.body body=true /\
      (∀ p∈sc.names,p.2=.cell -> sc.names.lookup p.1=some .cell) /\ (∀ p∈sc.names,p.2≠.free) /\ (∀ y∈names.take f.arity,sc.names.lookup y=some .local \/ sc.names.lookup y=some .cell):=by
  have h2:=an2 h
  have h3:=an2 h2
  have h4:=an2 h3
  have h5:=an2 h4
  have h6:=an2 h5
  have h7:=an2 h6
  have h8:=an2 h7
  have h9:=an2 h8
  have h10:=an2 h9
  have h11:=an2 h10
  have h12:=an2 h11
  exact ⟨of_decide_eq_true (an1 h),of_decide_eq_true (an1 h2),List.isEmpty_iff.mp (an1 h3),Option.isNone_iff_eq_none.mp (an1 h4),List.isEmpty_iff.mp (an1 h5),Option.isNone_iff_eq_none.mp (an1 h6),an1 h7,not_not (an1 h8),not_not (an1 h9),of_decide_eq_true (an1 h10),an1 h11,
    fun p hp hc=>(of_decide_eq_true (an1 (List.all_eq_true.mp (an1 h12) p hp))).trans (congrArg some hc),fun p hp=>of_decide_eq_false (not_not (an2 (List.all_eq_true.mp (an1 h12) p hp))),fun y hy=>Rv (List.all_eq_true.mp (an2 h12) y hy)⟩
theorem Room.deeper {d:Nat} (r:RoomF A (d+1)) (env:Env):Room (A.deeper env) d:=⟨r.hh,by have:=r.depth;show A.depth+1+_+_ < _;exact o26 this,by have:=r.units;show A.units+3+_+_ < _;exact o27 this⟩
theorem Ml (B:Base cx N) {k:Nat} {a:Addr} {args:List Val} {vals:List Value} (hk:cx.fns[k]?=some a) (room:RoomQ A (d+1)) (hfr:A.frames=some l)
    (hb:∀ (f:MFun) (stmts:List Stmt) (env:Env) (sc:Scope) (ns:List (Option Str)),cx.T.funs[k]?=some f -> ckSs N sc ns f.body stmts=true -> (∀ (i j:Nat) (y:Str),ns[i]?=some (some y) -> ns[j]?=some (some y) -> i=j) -> (A.deeper env).frames=some (env :: l) -> env.frame=some env.locals ->
      Gv cx (A.deeper env) (env :: l) env sc ns (execs stmts env) (execSs cx.T (Ai cx.T d) f.body)) :
    Sim cx A ((Amb.vrs cx args vals).and (Amb.frames cx l)) (call (.ref a) vals) (Ai cx.T (d+1) k args) (Amb.vr cx):=by
  intro H ρ s R ⟨vrs,fok⟩
  rw [P7]
  cases hf:cx.T.funs[k]? with
  | none=>trivial
  | some f =>
    show Bf cx A (if args.length=f.arity then Zn (execSs cx.T (Ai cx.T d) f.body (args.map some++List.replicate f.nvars none) H) else .bad) _ _ ρ s
    by_cases hl:args.length=f.arity
    · rw [if_pos hl]
      refine Af fun G kG=>?_
      refine ex4 ((B.fns k a f hk hf).is) fun o fd body names zz=>Vl zz fun ho hoc hdata hcd hbody hclo hglob hblt hdf hkd hck=>?_
      refine Ae8 (Sn hck) fun c1 c2 c3 c4 c5 c6 c7 c8 c9 c10 c11 c12 c13 c14=>?_
      refine kG ?_
      have nd:=Gf c7
      have nds:names.Nodup:=Mk nd
      have ndt:(names.take f.arity).Nodup:=nds.sublist (List.take_sublist _ _)
      have vlen:vals.length=(names.take f.arity).length:=by rw [List.length_take,<- vrs.length,hl];exact o28 c1
      have hbind:bindArgs fd ⟨vals,[]⟩=pure ((names.take f.arity).zip vals):=J5 c3 c2.symm c4 c5 c6 hdf ndt vlen
      have hkind:∀ x∈(names.take f.arity).zip vals,fd.scope.names.lookup x.1=some .local \/ (fd.scope.names.lookup x.1=some .cell /\ ((cellsFrom (s.heap.objs.size+1) fd.scope.names []).lookup x.1).isSome=true):=by
        intro x hx
        rcases c14 x.1 (List.of_mem_zip hx).1 with h | h
        · exact .inl h
        · exact .inr ⟨h,Eu (.inl (mem_of_lookup h))⟩
      generalize henv:callEnvC fd s.heap.objs.size a=env
      have eloc:env.locals=s.heap.objs.size:=by rw [<- henv];rfl
      have escope:env.scope=fd.scope:=by rw [<- henv];rfl
      have ecells:env.cells=cellsFrom (s.heap.objs.size+1) fd.scope.names []:=by rw [<- henv];rfl
      have egl:env.globals=mainGlobals:=by rw [<- henv];exact hglob
      have ebl:env.builtins=builtinsNs:=by rw [<- henv];exact hblt
      have efr:env.frame=some env.locals:=by rw [<- henv];rfl
      have ekind:∀ y,env.kindOf y=fd.scope.names.lookup y:=fun y=>by unfold Env.kindOf;rw [escope]
      -- the body
      have main:∀ s₁,InCallC s env.locals (bindL env.kindOf ((names.take f.arity).zip vals) fun _=>none) env.cells (bindC env.kindOf ((names.take f.arity).zip vals) fun _=>none) s₁ ->
          Full ρ s.heap ρ s₁.heap /\ Bt cx (A.deeper env) env fd.scope (names.map some) (execSs cx.T (Ai cx.T d) f.body (args.map some++List.replicate f.nvars none) H) (execs body env) ρ s₁:=by
        intro s₁ x
        have hkeep:=x.toInCall.keep
        have F0:Full ρ s.heap ρ s₁.heap:=Full.more hkeep
        refine ex2 x.toInCall.same fun h₁ tk e1=>?_
        have R1:Rel cx H ρ s₁:=by rw [e1] at hkeep ⊢;exact R.more hkeep
        have locfresh:s.heap.get? env.locals=none:=by rw [eloc];exact Ao _
        have lvB:E1 cx.h₀ s.heap:=fun b o e=>⟨o,R.base b o e⟩
        have cfresh:∀ y c,env.cells.lookup y=some c -> s.heap.get? c=none:=fun y c hc=>Ge (by have:=x.above y c (mem_of_lookup hc);rw [eloc] at this;exact zL this)
        have cellFacts:∀ y c,env.cells.lookup y=some c -> s₁.heap.IsCell c (bindC env.kindOf ((names.take f.arity).zip vals) (fun _=>none) y):=fun y c hc=>x.cell y c hc
        have eok:EnvOk cx env fd.scope (names.map some) (args.map some++List.replicate f.nvars none) ρ s₁.heap:=by
          refine ⟨⟨by rw [escope];exact c10,egl,ebl,fun y kd hy=>?_,⟨_,x.toInCall.ns⟩,R.fresh_not locfresh,lvB.none locfresh,fun y c hc=>⟨⟨_,cellFacts y c hc⟩,R.fresh_not (cfresh y c hc),lvB.none (cfresh y c hc)⟩,fun y hy=>?_,fun y z c hy hz=>name_of_addr x.apart (mem_of_lookup hy) (mem_of_lookup hz)⟩,by rw [List.length_append,List.length_map,List.length_replicate,List.length_map,hl];exact c1,?_⟩
          · rw [ekind,hy]
            cases kd <;> first | rfl | exact .inl rfl | trivial
          · rcases hy with hy | hy
            · rw [ecells]
              exact Option.isSome_iff_exists.mp (Eu (.inl (mem_of_lookup hy)))
            · exact absurd rfl (c13 _ (mem_of_lookup hy))
          · intro i y mv hi hm
            have hi':names[i]?=some y:=by rw [List.getElem?_map] at hi;cases q:names[i]? <;> rw [q] at hi <;> simp at hi;rw [hi]
            by_cases lt:i < f.arity
            · have ha:args[i]?=some mv:=by
                rw [List.getElem?_append_left (by rw [List.length_map,hl];exact lt),List.getElem?_map] at hm
                cases q:args[i]? <;> rw [q] at hm <;> simp at hm
                rw [hm]
              refine ex1 (vrs.get ha) fun v zz=>Ac zz fun ev vr=>?_
              have et:(names.take f.arity)[i]?=some y:=by rw [List.getElem?_take,if_pos lt];exact hi'
              have mem:(y,v)∈(names.take f.arity).zip vals:=by
                refine List.mem_iff_getElem?.mpr ⟨i,?_⟩
                rw [List.getElem?_zip_eq_some];exact ⟨et,ev⟩
              have ndz:(((names.take f.arity).zip vals).map (·.1)).Nodup:=by
                rw [List.map_fst_zip (by rw [vlen];exact zI _)];exact ndt
              refine ⟨v,?_,vr.step F0.step⟩
              rcases c14 y (zF et) with h | h
              · exact .inl ⟨by rw [ekind];exact h,_,x.toInCall.ns,Sl ndz mem (by rw [ekind];exact h)⟩
              · obtain ⟨c,hc⟩:=Option.isSome_iff_exists.mp (Eu (n:=s.heap.objs.size+1) (acc:=[]) (.inl (mem_of_lookup h)))
                rw [<- ecells] at hc
                have:=cellFacts y c hc
                rw [Sm ndz mem (by rw [ekind,h];simp)] at this
                exact .inr ⟨.inl (by rw [ekind];exact h),c,hc,this⟩
            · exfalso
              rw [List.getElem?_append_right (by rw [List.length_map,hl];exact o29 c1 lt),List.getElem?_replicate] at hm
              split at hm <;> simp at hm
        refine ⟨F0,hb f body env fd.scope (names.map some) hf c11 nd (by show A.frames.map (env :: ·)=_;rw [hfr];rfl) efr _ H ρ s₁ R1 eok ?_⟩
        · intro e he
          rcases List.mem_cons.mp he with rfl | he
          · refine Af fun G kG=>?_
            refine ex3 x.toInCall.ns fun o' es ep zz=>An zz fun eo' d' _=>?_
            refine kG ?_
            exact ⟨by rw [escope,c10];simp,e.locals,o',efr,lvB.none locfresh,eo',⟨_,_,d'⟩,R.fresh_not locfresh⟩
          · exact (fok.full F0) e he
      -- what stands of the caller's heap
      have back:∀ {s₁ ρ' h'},Full ρ s.heap ρ s₁ -> FullS env ρ s₁ ρ' h' -> (∀ y c,env.cells.lookup y=some c -> s.heap.get? c=none) -> Full ρ s.heap ρ' h':=by
        intro s₁ ρ' h' F0 F1 cf
        refine ⟨?_,fun b ob e n=>?_,F0.live.trans F1.live⟩
        · exact F0.grow.trans F1.grow F0.live
        · refine Af fun G kG=>?_
          refine ex1 (F0.keep b ob e n) fun o1 zz=>Ac zz fun e1 u1=>?_
          refine ex1 (F1.keep b o1 e1 n (fun q=>by rw [q,eloc,Ao] at e;exact nomatch e) (fun y q=>by rw [cf y b q] at e;cases e)) fun o2 zz=>Ac zz fun e2 u2=>?_
          refine kG ?_
          exact ⟨o2,e2,u1.trans u2⟩
      have cf:∀ y c,env.cells.lookup y=some c -> s.heap.get? c=none:=fun y c hc=>by
        refine Ge ?_
        have ok:=cellsFrom_ok fd.scope.names (s.heap.push { cls:=.type "frame",data:=.dict #[] }) (s.heap.objs.size+1) [] ⟨fun _ _ hm=>(nomatch hm),List.Pairwise.nil⟩ (by rw [Heap.size_push];exact zI _)
        rw [Heap.size_push] at ok
        rw [ecells] at hc
        exact Nat.le_of_succ_le (ok.empty y c (mem_of_lookup hc)).2
      have hlim:s.heap.NoLimit:=B.lim.keeps R.base
      have hcd':s.heap.CodeRec fd.code fd.qualname:=hcd.keeps R.base
      generalize hres:execSs cx.T (Ai cx.T d) f.body (args.map some++List.replicate f.nvars none) H=res at main
      cases res with
      | bad=>trivial
      | next Γ' H' =>
        refine wpAny_call (codeAny_call_cells (by have:=room.depth;exact o30 this) (R.base _ _ ho) hdata hlim hcd' hbody hbind hclo hkind (fun s₁ x=>?_) c8 c9 c10)
        rw [henv] at x ⊢
        obtain ⟨F0,sim⟩:=main s₁ x
        exact zE sim (fun fl s' ⟨h1,ρ',F1,R',_⟩=>by refine Eq.symm h1▸?_;exact ⟨ρ',back F0 F1 cf,R',.none⟩) fun _ _ q=>q.elim
      | ret v H' =>
        refine wpAny_call (codeAny_call_cells (by have:=room.depth;exact o30 this) (R.base _ _ ho) hdata hlim hcd' hbody hbind hclo hkind (fun s₁ x=>?_) c8 c9 c10)
        rw [henv] at x ⊢
        obtain ⟨F0,sim⟩:=main s₁ x
        exact zE sim (fun fl s' ⟨v',ρ',h1,F1,R',vr⟩=>by refine Eq.symm h1▸?_;exact ⟨ρ',back F0 F1 cf,R',vr.1⟩) fun _ _ q=>q.elim
      | exc c Γ' H' =>
        refine wpAny_call (codeAny_call_cells (by have:=room.depth;exact o30 this) (R.base _ _ ho) hdata hlim hcd' hbody hbind hclo hkind (fun s₁ x=>?_) c8 c9 c10)
        rw [henv] at x ⊢
        obtain ⟨F0,sim⟩:=main s₁ x
        refine zE sim (fun _ _ q=>q.elim) fun e s' ⟨ρ',F1,R',e0,fl⟩=>?_
        have w:Aw cx (env :: l) ρ' s'.heap:=fun en he=>by
          rcases List.mem_cons.mp he with rfl | he
          · refine Af fun G kG=>?_
            refine ex1 e0.st.loc fun m zz=>ex3 zz fun o' es ep zz=>An zz fun eo' d' _=>?_
            refine kG ?_
            exact ⟨by rw [e0.st.fn];simp,en.locals,o',efr,e0.st.locB,eo',⟨_,_,d'⟩,e0.st.locN⟩
          · exact (fok.full (back F0 F1 cf)) en he
        exact Qe (by show A.frames.map (env :: ·)=_;rw [hfr];rfl) efr w R' (fun b o e=>F0.live b o (R.base b o e)) F1.live fl fun h' o' fl'=>⟨ρ',back F0 (o'.fullS F1) cf,o'.rel R',fl'.to.older F0.live⟩
    · rw [if_neg hl];trivial
theorem Hh.step (B:Base cx N) (hb:Yn cx N (Ai cx.T d) d):Hh cx (Ai cx.T (d+1)) (d+1) :=
  fun k a args vals A l hk room hfr=>Ml B hk room.q hfr fun f stmts env sc ns _ h1 h2 h3 h4=>hb f.body stmts env sc ns (A.deeper env) l h1 h2 (Room.deeper room env) h3 h4
end
inductive ItOk (cx:Cx) (xs:List Val) (I:Addr) (i:Nat) (ρ:Rho) (h:Heap):Option Nat -> Prop
  | list {l:Nat} {p:Addr × Addr}:ρ[l]?=some p -> h.IsListIter I p.1 i -> ItOk cx xs I i ρ h (some l)
  | tup {a:Addr} {vs:List Value} {n:Nat}:h.get? a=some (Ox vs n) -> ¬ Av ρ a -> VRs cx ρ h xs vs -> h.IsTupleIter I a i -> ItOk cx xs I i ρ h none
  | rng {n:Int}:xs=(List.range n.toNat).map (fun (k:Nat)=>Val.int (k:Int)) -> IsRangeIter h I (i:Nat) ((n.toNat:Int) - (i:Nat)) 1 -> ItOk cx xs I i ρ h none
noncomputable def Gn (o:Obj):Prop:=(∃ vs,o.data=.fields vs) /\ ∃ n,o.cls=.type n /\ n≠"range"
theorem Gn.not {o:Obj} (x:Gn o):¬ Fk o /\ ∀ C,¬ C7 o C:=by
  refine Af fun G kG=>?_
  refine Ac x fun zn0 zz=>ex1 zz fun n zz=>Ac zz fun c ne=>?_;obtain ⟨vs,d⟩:=zn0
  refine kG ?_
  refine ⟨fun f=>?_,fun C f=>?_⟩
  · rcases f with ⟨_,xs,k,f⟩ | ⟨f,_⟩
    · rw [d] at f;cases f
    · rw [c] at f;cases f;exact ne rfl
  · rw [f.1] at c;cases c
theorem Gn.notDict {o:Obj} (x:Gn o) (es:Array DictEntry) (n:Nat):o.data≠.dict es n:=by
  obtain ⟨⟨vs,d⟩,_⟩:=x
  rw [d];exact fun q=>nomatch q
theorem Gn.notCell {o:Obj} (x:Gn o) (v:Option Value):o.data≠.cell v:=by
  obtain ⟨⟨vs,d⟩,_⟩:=x
  rw [d];exact fun q=>nomatch q
theorem Ev {vs:List Value} {n:Nat}:¬ Fk (Bq vs n) /\ ∀ C,¬ C7 (Bq vs n) C:=by
  refine ⟨fun f=>?_,fun C f=>by cases f.1⟩
  rcases f with ⟨f,_⟩ | ⟨f,_⟩
  · exact absurd (Value.type.inj f) (by decide)
  · exact absurd (Value.type.inj f) (by decide)
section
variable {cx:Cx} {A:Around} {xs:List Val} {I:Addr} {i:Nat} {ρ ρ':Rho} {s:Shared} {H:Hp} {src:Option Nat}
theorem ItOk.step {h h':Heap} (x:ItOk cx xs I i ρ h src) (st:Step ρ h ρ' h') (k:∀ o,h.get? I=some o -> h'.get? I=some o):ItOk cx xs I i ρ' h' src:=by
  cases x with
  | list hp hi=>exact .list (st.get hp) (hi.at k)
  | tup e n r hi=>exact .tup (st.keepT _ _ e (.inl ⟨rfl,_,_,rfl⟩) n).1 (st.keepT _ _ e (.inl ⟨rfl,_,_,rfl⟩) n).2 (r.step st) (hi.at k)
  | rng e hi=>exact .rng e (k _ hi)
theorem ItOk.obj {h:Heap} (x:ItOk cx xs I i ρ h src):∃ o,h.get? I=some o /\ Gn o:=by
  cases x with
  | list hp hi=>refine ex1 hi fun o zz=>An zz fun e c d=>?_;exact ⟨o,e,⟨_,d⟩,_,c,by decide⟩
  | tup e n r hi=>refine ex1 hi fun o zz=>An zz fun e c d=>?_;exact ⟨o,e,⟨_,d⟩,_,c,by decide⟩
  | rng e hi=>exact ⟨_,hi,⟨_,rfl⟩,_,rfl,by decide⟩
theorem Kh {v:Val} {w:Value} (R:Rel cx H ρ s) (vr:VR cx ρ s.heap v w) (e:Cy v H=some (xs,src)) {Q:Value -> Shared -> Prop} {E:Value -> Shared -> Prop}
    (k:∀ o,(s.heap.push o).get? s.heap.objs.size=some o -> ItOk cx xs s.heap.objs.size 0 ρ (s.heap.push o) src -> Q (.ref s.heap.objs.size) { s with heap:=s.heap.push o }) :
    wpAny (model cx.prog cx.w) A (pyIter w) Q E s:=by
  have P:=fun o=>Full.push ρ s.heap o
  cases vr with
  | @loc l p hp =>
    · obtain ⟨hl,e⟩:=Vq e
      refine Af fun G kG=>?_
      refine ex2 (R.listAt hl hp) fun vs n zz=>Cm zz fun _ g r z=>?_
      refine kG ?_
      subst e
      refine wpAny_pyIter_list (items:=vs.toArray) ⟨_,g,rfl,n,rfl⟩ (k _ (Heap.get?_push_size _ rfl) (.list hp ⟨_,Heap.get?_push_size _ rfl,rfl,rfl⟩))
  | @tup a vs n ms g no z r =>
    cases e
    exact wpAny_pyIter_tuple (items:=vs.toArray) ⟨_,g,rfl,n,rfl⟩ (k _ (Heap.get?_push_size _ rfl) (.tup (Heap.get?_push_of_some _ g) no (r.step (P _).step) ⟨_,Heap.get?_push_size _ rfl,rfl,rfl⟩))
  | @rng a n t u v g no z1 z2 =>
    cases e
    refine wpAny_pyIter_range g (small_one (by decide) (by decide) z1 z2) (k _ (Heap.get?_push_size _ rfl) (.rng rfl ?_))
    have e1:Builtin.Range.rangeSize 0 n 1=((n.toNat:Nat):Int):=by rw [rangeSize_one];exact rs1
    rw [e1]
    simpa using Heap.get?_push_size s.heap (o:={ cls:=.type "range_iterator",data:=.fields #[rawInt 0,rawInt (n.toNat:Int),rawInt 1] }) rfl
  | _=>exact Ae e
theorem Mm (R:Rel cx H ρ s) (x:ItOk cx xs I i ρ s.heap src) (ck:chk src xs H=true) {m:Val} (hm:xs[i]?=some m) {Q:Option Value -> Shared -> Prop} {E:Value -> Shared -> Prop}
    (k:∀ v h' tk,Heap.SameBut I s.heap h' -> (∃ o,h'.get? I=some o) -> (∀ st:Step ρ s.heap ρ h',VR cx ρ h' m v /\ ItOk cx xs I (i+1) ρ h' src) -> Q (some v) { s with heap:=h',toks:=tk }) :
    wpAny (model cx.prog cx.w) A (pyNext (.ref I)) Q E s:=by
  cases x with
  | @list l p hp hi =>
    · refine Af fun G kG=>?_
      refine ex2 (R.listAt (Rq ck) hp) fun vs n zz=>Cm zz fun _ g r z=>?_
      refine ex1 (r.get hm) fun v zz=>Ac zz fun ev vr=>?_
      refine kG ?_
      exact wpAny_pyNext_list_item (items:=vs.toArray) hi ⟨_,g,rfl,n,rfl⟩ (by simpa using ev) fun h' hi' hs=>k v h' s.toks hs (by refine ex1 hi' fun o zz=>Ac zz fun e _=>?_;exact ⟨o,e⟩) fun st=>⟨vr.step st,.list hp hi'⟩
  | @tup a vs n g no r hi =>
    refine ex1 (r.get hm) fun v zz=>Ac zz fun ev vr=>?_
    refine wpAny_pyNext_tuple_item (items:=vs.toArray) hi ⟨_,g,rfl,n,rfl⟩ (by simpa using ev) fun h' hi' hs=>k v h' s.toks hs (by refine ex1 hi' fun o zz=>Ac zz fun e _=>?_;exact ⟨o,e⟩) fun st=>⟨vr.step st,.tup (st.keepT _ _ g (.inl ⟨rfl,_,_,rfl⟩) no).1 no (r.step st) hi'⟩
  | @rng n e hi =>
    subst e
    have lt:i < n.toNat:=by
      have:=(List.getElem?_eq_some_iff.mp hm).1
      simpa using this
    have hm':m=.int (i:Int):=by
      rw [List.getElem?_map,List.getElem?_range lt] at hm
      simpa using hm.symm
    subst hm'
    refine wpAny_pyNext_range_item hi (by exact o31 lt) fun h' hi' hs=>k _ h' _ hs ⟨_,hi'⟩ fun st=>⟨.int _ _,.rng rfl ?_⟩
    have e1:((i+1:Nat):Int)=(i:Int)+1:=by exact o32
    have e2:((n.toNat:Int) - ((i+1:Nat):Int))=(n.toNat:Int) - (i:Int) - 1:=by exact o33
    rw [e1,<- e1,e2]
    exact hi'
theorem O8 (hh:A.handled=none) (R:Rel cx H ρ s) (x:ItOk cx xs I i ρ s.heap src) (ck:chk src xs H=true) (hm:xs[i]?=none) {Q:Option Value -> Shared -> Prop} {E:Value -> Shared -> Prop}
    (k:∀ h' tk,Heap.ExtBut I s.heap h' -> Q none { s with heap:=h',toks:=tk }):wpAny (model cx.prog cx.w) A (pyNext (.ref I)) Q E s:=by
  cases x with
  | @list l p hp hi =>
    · refine Af fun G kG=>?_
      refine ex2 (R.listAt (Rq ck) hp) fun vs n zz=>Cm zz fun _ g r z=>?_
      refine kG ?_
      have len:=r.length
      refine wpAny_pyNext_list_end (items:=vs.toArray) hh hi ⟨_,g,rfl,n,rfl⟩ ?_ fun h' he=>k h' s.toks he
      rw [List.getElem?_eq_none_iff] at hm
      simp;exact o34 len hm
  | @tup a vs n g no r hi =>
    have len:=r.length
    refine wpAny_pyNext_tuple_end (items:=vs.toArray) hh hi ⟨_,g,rfl,n,rfl⟩ ?_ fun h' he=>k h' s.toks he
    rw [List.getElem?_eq_none_iff] at hm
    simp;exact o34 len hm
  | @rng n e hi =>
    subst e
    rw [List.getElem?_eq_none_iff] at hm
    simp at hm
    exact wpAny_pyNext_range_end hh hi (by exact o35 hm) fun h' he=>k h' s.toks he
end
theorem Step.priv {ρ:Rho} {h h':Heap} (qs:List Addr) (hq:∀ q∈qs,∀ o,h.get? q=some o -> ¬ Fk o /\ ∀ C,¬ C7 o C) (k:∀ b o,b ∉ qs -> h.get? b=some o -> h'.get? b=some o):Step ρ h ρ h' :=
  ⟨⟨[],by simp⟩,fun b o e f n=>⟨k b o (fun w=>(hq b w o e).1 f) e,n⟩,fun b o C e f n=>⟨o,k b o (fun w=>(hq b w o e).2 C f) e,f,n⟩⟩
section
variable {cx:Cx} {A:Around} {P:Amb} {xs:List Val} {ρ:Rho} {H:Hp} {src:Option Nat}
noncomputable abbrev leastFrom (ys:List Val) (m:Val):Option Val:=ys.foldl (fun m y=>m.bind fun m=>(Ja Fi y m).map fun b=>if b=true then y else m) (some m)
end
end Mine.Internal
namespace Mine.Internal
open PySem PySem.W PyProof.Rows
noncomputable def Gw {α:Type} (lt:Nat -> Nat -> Bool) (n:Nat) (P:α -> Prop):KasT α -> Prop
  | .ret a=>P a
  | .ask i j k=>i < n /\ j < n /\ Gw lt n P (k (lt i j))
theorem Gw.bind {α β:Type} {lt:Nat -> Nat -> Bool} {n:Nat} {P:α -> Prop} {Q:β -> Prop} {f:α -> KasT β}:∀ (t:KasT α),Gw lt n P t -> (∀ a,P a -> Gw lt n Q (f a)) -> Gw lt n Q (t.bind f)
  | .ret a,h,k=>k a h
  | .ask i j g,h,k=>⟨h.1,h.2.1,Gw.bind (g (lt i j)) h.2.2 k⟩
theorem Gw.wp {α:Type} {lt:Nat -> Nat -> Bool} {n:Nat} {P:α -> Prop} {cmp:Nat -> Nat -> (Bool -> Shared -> Prop) -> Shared -> Prop} {G:α -> Shared -> Prop} {s:Shared} (hc:∀ i j C,i < n -> j < n -> C (lt i j) s -> cmp i j C s) (hG:∀ a,P a -> G a s):∀ (t:KasT α),Gw lt n P t -> t.kasWp cmp G s
  | .ret a,h=>hG a h
  | .ask i j g,h=>hc i j _ h.1 h.2.1 (Gw.wp hc hG (g (lt i j)) h.2.2)
structure Ltw (lt:Nat -> Nat -> Bool):Prop where
  asym:∀ i j,lt i j=true -> lt j i=false
  tr:∀ i j k,lt j i=false -> lt k j=false -> lt k i=false
section
variable {lt:Nat -> Nat -> Bool} {n:Nat} {p:Array Nat}
noncomputable abbrev gd (p:Array Nat) (i:Nat):Nat:=p.getD i 0
noncomputable def Asc (lt:Nat -> Nat -> Bool) (p:Array Nat) (k:Nat):Prop:=∀ i j,i < j -> j < k -> lt (gd p j) (gd p i)=false
noncomputable def Dsc (lt:Nat -> Nat -> Bool) (p:Array Nat) (k:Nat):Prop:=∀ i j,i < j -> j < k -> lt (gd p i) (gd p j)=false
noncomputable def Pn (n:Nat) (p:Array Nat):Prop:=p.Perm (List.range n).toArray
theorem Pn.size (h:Pn n p):p.size=n:=by have:=h.size_eq;simpa using this
theorem Pn.low (h:Pn n p) (h0:0 < n) (i:Nat):gd p i < n:=by
  by_cases q:i < p.size
  · have e:gd p i=p[i]:=by simp [gd,Array.getD,q]
    have m:p[i]∈(List.range n):=by
      have:=(Array.perm_iff_toList_perm.mp h).mem_iff (a:=p[i])
      simpa using this
    rw [e];simpa using m
  · have e:gd p i=0:=by simp [gd,Array.getD,q]
    exact o36 h0 e
theorem So {q:Array Nat} {i j:Nat} (h:q[i]?=p[j]?):gd q i=gd p j:=by
  have a:∀ (r:Array Nat) (k:Nat),gd r k=(r[k]?).getD 0:=fun r k=>by simp [gd]
  rw [a,a,h]
theorem Mn (h:Pn n p) (i j:Nat):Pn n (kas_rev p i j):=(mirror_perm p i j _).trans h
theorem Gw.mono {α:Type} {P Q:α -> Prop} (k:∀ a,P a -> Q a):∀ (t:KasT α),Gw lt n P t -> Gw lt n Q t
  | .ret a,h=>k a h
  | .ask i j g,h=>⟨h.1,h.2.1,Gw.mono k (g (lt i j)) h.2.2⟩
theorem Aai (a:Nat):∃ h,a / 2=h /\ 2 * h <= a /\ a < 2 * h+2:=⟨_,rfl,by exact o37,by exact o38⟩
theorem Adw {i j k h:Nat} (a:k < j - h) (b:i+h <= k) (c:j - i < 2 * h+2):i+j - 1 - k=k:=by exact o39 b c a
theorem Iq {i j:Nat} (hj:j <= p.size) (k:Nat):gd (kas_rev p i j) k=if i <= k /\ k < j then gd p (i+j - 1 - k) else gd p k:=by
  refine ex1 (Aai (j - i)) fun h zz=>An zz fun eh l1 l2=>?_
  have e:(kas_rev p i j)[k]?=if (i <= k /\ k < i+h) \/ (j - h <= k /\ k < j) then p[i+j - 1 - k]? else p[k]?:=by
    rw [<- eh] at l1 ⊢;exact getElem?_mirror (i:=i) hj ((j - i) / 2) l1 k
  by_cases q:i <= k /\ k < j
  · rw [if_pos q]
    refine So (e.trans ?_)
    by_cases q2:(i <= k /\ k < i+h) \/ (j - h <= k /\ k < j)
    · rw [if_pos q2]
    · rw [if_neg q2,Adw (Nat.not_le.mp fun w=>q2 (.inr ⟨w,q.2⟩)) (Nat.not_lt.mp fun w=>q2 (.inl ⟨q.1,w⟩)) l2]
  · rw [if_neg q]
    refine So (e.trans (if_neg fun w=>q ?_))
    rcases w with w | w
    · exact ⟨w.1,by clear e eh l2 q hj;exact o40 l1 w⟩
    · exact ⟨by clear e eh l2 q hj;exact o41 w l1,w.2⟩
theorem Adx (h:Pn n p) (k d:Nat):Pn n (bubble p k d):=(bubble_perm p k d).trans h
theorem Yo {k d:Nat} (hk:k < p.size) (hd:d <= k) (j:Nat):gd (bubble p k d) j=if j=k - d then gd p k else if k - d < j /\ j <= k then gd p (j - 1) else gd p j:=by
  have e:=getElem?_bubble hk d hd j
  by_cases q:j=k - d
  · rw [if_pos q] at e ⊢;exact So e
  · rw [if_neg q] at e ⊢
    by_cases q2:k - d < j /\ j <= k
    · rw [if_pos q2] at e ⊢;exact So e
    · rw [if_neg q2] at e ⊢;exact So e
theorem Aaj (L:Ltw lt) (hp:Pn n p) (h0:0 < n):∀ (f m:Nat),1 <= m -> Asc lt p m -> Gw lt n (fun r=>m <= r /\ r <= m+f /\ Asc lt p r /\ (r=m+f \/ lt (gd p r) (gd p (r - 1))=true)) (kas_asc p f m)
  | 0,m,h1,ha=>⟨zI _,zI _,ha,.inl rfl⟩
  | f+1,m,h1,ha=>by
    refine ⟨hp.low h0 _,hp.low h0 _,?_⟩
    cases c:lt (p.getD m 0) (p.getD (m - 1) 0) with
    | true=>exact ⟨zI _,by exact o42,ha,.inr c⟩
    | false =>
      have ha':Asc lt p (m+1):=fun i j hij hj=>by
        by_cases q:j=m
        · subst q
          by_cases q2:i=j - 1
          · subst q2;exact c
          · exact L.tr _ _ _ (ha i (j - 1) (by exact o43 h1 hij q2) (by exact o44 h1)) c
        · exact ha i j hij (by exact o45 hj q)
      have ih:=Aaj L hp h0 f (m+1) (by exact o46 h1) ha'
      exact Gw.mono (fun r h=>⟨Nat.le_of_succ_le h.1,zC h.2.1 (zG (Nat.add_right_comm m 1 f)),h.2.2.1,h.2.2.2.imp (fun q=>q.trans (Nat.add_right_comm m 1 f)) id⟩) _ ih
noncomputable def Aak (lt:Nat -> Nat -> Bool) (p:Array Nat) (m q:Nat):Prop:=∀ i j,m <= i+q+1 -> i < m -> m <= j+q+1 -> j < m -> lt (gd p i) (gd p j)=false
theorem Sp {m:Nat} (hz:m <= p.size) {q:Nat} (hq:q+1 <= m) (hd:Dsc lt p m) (ht:Aak lt p m q):Dsc lt (kas_rev p (m - (q+1)) m) m:=fun i j hij hj=>by
  rw [Iq hz,Iq hz]
  clear hz
  by_cases a:m - (q+1) <= i /\ i < m
  · rw [if_pos a,if_pos (by exact o47 a hij hj)]
    exact ht _ _ (by exact o48 a hq hij hj) (by exact o49 a hij hj) (by exact o50 hq hj) (by exact o51 a hij hj)
  · rw [if_neg a]
    by_cases b:m - (q+1) <= j /\ j < m
    · rw [if_pos b];exact hd _ _ (by exact o52 hq hij hj a) (by exact o53 b hj)
    · rw [if_neg b];exact hd _ _ hij hj
theorem O9 (L:Ltw lt) (h0:0 < n):∀ (f:Nat) (p:Array Nat) (m q:Nat),Pn n p -> m+f <= n -> q+1 <= m -> Dsc lt p m -> Aak lt p m q -> Gw lt n (fun r=>Pn n r.1 /\ m <= r.2.1 /\ r.2.1 <= m+f /\ r.2.2+1 <= r.2.1 /\ Dsc lt r.1 r.2.1 /\ Aak lt r.1 r.2.1 r.2.2) (kas_desc f p m q)
  | 0,p,m,q,hp,hm,hq,hd,ht=>⟨hp,zI _,zI _,hq,hd,ht⟩
  | f+1,p,m,q,hp,hm,hq,hd,ht=>by
    have hz:=hp.size
    refine ⟨hp.low h0 _,hp.low h0 _,?_⟩
    have mono:∀ (t:KasT (Array Nat × Nat × Nat)),Gw lt n (fun r=>Pn n r.1 /\ m+1 <= r.2.1 /\ r.2.1 <= m+1+f /\ r.2.2+1 <= r.2.1 /\ Dsc lt r.1 r.2.1 /\ Aak lt r.1 r.2.1 r.2.2) t -> Gw lt n (fun r=>Pn n r.1 /\ m <= r.2.1 /\ r.2.1 <= m+(f+1) /\ r.2.2+1 <= r.2.1 /\ Dsc lt r.1 r.2.1 /\ Aak lt r.1 r.2.1 r.2.2) t:=Gw.mono fun r h=>⟨h.1,Nat.le_of_succ_le h.2.1,zC h.2.2.1 (zG (Nat.add_right_comm m 1 f)),h.2.2.2⟩
    have low:lt (gd p (m - 1)) (gd p m)=false -> ∀ i,i < m -> lt (gd p i) (gd p m)=false:=fun c i hi=>by
      by_cases e:i=m - 1
      · subst e;exact c
      · exact L.tr _ _ _ c (hd i (m - 1) (by exact o54 hi e) (by exact o55 hi))
    have one:∀ (p:Array Nat),Dsc lt p (m+1) -> Aak lt p (m+1) 0:=fun p hd i j h1 h2 h3 h4=>by
      have e:i=j:=by exact o56 h1 h3 h2 h4
      refine e▸?_
      cases c:lt (gd p i) (gd p i) with
      | false=>rfl
      | true=>rw [L.asym _ _ c] at c;exact nomatch c
    cases c:lt (p.getD m 0) (p.getD (m - 1) 0) with
    | true =>
      have c':=low (L.asym _ _ c)
      simp only [if_true]
      by_cases hq0:q > 0
      · rw [if_pos hq0]
        have hd':Dsc lt (kas_rev p (m - (q+1)) m) (m+1):=fun i j hij hj=>by
          by_cases e:j=m
          · subst e
            rw [Iq (by exact o57 hm hz) j,if_neg (by exact o58),Iq (by exact o57 hm hz)]
            by_cases a:j - (q+1) <= i /\ i < j
            · rw [if_pos a];exact c' _ (by exact o53 a hij)
            · rw [if_neg a];exact c' _ (by assumption)
          · exact Sp (by exact o57 hm hz) hq hd ht i j hij (by exact o45 hj e)
        exact mono _ (O9 L h0 f _ (m+1) 0 (Mn hp _ _) (by exact o59 hm hz) (by exact o60) hd' (one _ hd'))
      · rw [if_neg hq0]
        have hd':Dsc lt p (m+1):=fun i j hij hj=>by
          by_cases e:j=m
          · subst e;exact c' _ hij
          · exact hd i j hij (by exact o45 hj e)
        exact mono _ (O9 L h0 f _ (m+1) 0 hp (by exact o59 hm hz) (by exact o60) hd' (one _ hd'))
    | false =>
      simp only [Bool.false_eq_true,if_false]
      refine ⟨hp.low h0 _,hp.low h0 _,?_⟩
      cases c2:lt (p.getD (m - 1) 0) (p.getD m 0) with
      | true=>exact ⟨hp,zI _,zM _ _,hq,hd,ht⟩
      | false =>
        simp only [Bool.false_eq_true,if_false]
        have c':=low c2
        have hd':Dsc lt p (m+1):=fun i j hij hj=>by
          by_cases e:j=m
          · subst e;exact c' _ hij
          · exact hd i j hij (by exact o45 hj e)
        refine mono _ (O9 L h0 f _ (m+1) (q+1) hp (by exact o59 hm hz) (by exact o61 hq) hd' fun i j h1 h2 h3 h4=>?_)
        by_cases e1:i=m
        · by_cases e2:j=m
          · rw [e1,e2];exact one p hd' m m (by exact o62) (by exact o63) (by exact o62) (by exact o63)
          · rw [e1]
            have t1:=ht (m - 1) j (by exact o64 h1 h3 hq h4 e1) (by exact o65 h1 hq e1) (by exact o66 h3 e1) (by exact o67 h4 e1 e2)
            exact L.tr _ _ _ t1 c
        · by_cases e2:j=m
          · rw [e2];exact c' i (by exact o67 h2 e2 e1)
          · exact ht i j (by exact o68 h1) (by exact o69 h2 h4 e1 e2) (by exact o68 h3) (by exact o45 h4 e2)
noncomputable def Cnt (lt:Nat -> Nat -> Bool) (n:Nat) (r:Nat × Array Nat):Prop:=Pn n r.2 /\ 1 <= r.1 /\ r.1 <= n /\ Asc lt r.2 r.1
theorem Sq (L:Ltw lt) (hp:Pn n p) (m:Nat) (h1:1 <= m) (hm:m <= n) (hd:Dsc lt p m):Gw lt n (Cnt lt n) (kas_tail3 m n p):=by
  have ha:Asc lt (kas_rev p 0 m) m:=fun i j hij hj=>by
    rw [Iq (by rw [hp.size];exact hm),Iq (by rw [hp.size];exact hm),if_pos (by exact o70 hj),if_pos (by exact o71 hij hj)]
    exact hd _ _ (by exact o72 hij hj) (by exact o73 hij hj)
  exact Gw.bind _ (Aaj L (Mn hp 0 m) (by exact o74 h1 hm) (n - m) m h1 ha) fun r hr=>⟨Mn hp 0 m,zC h1 hr.1,zC hr.2.1 (zG (Nat.add_sub_cancel' hm)),hr.2.2.1⟩
theorem Ki (L:Ltw lt) (hp:Pn n p) (m:Nat) (h1:1 <= m) (hm:m+1 <= n) (hd:Dsc lt p (m+1)):Gw lt n (Cnt lt n) (kas_descPart m n p):=by
  have t0:Aak lt p (m+1) 0:=fun i j h1 h2 h3 h4=>by
    have e:i=j:=by exact o56 h1 h3 h2 h4
    refine e▸?_
    cases c:lt (gd p i) (gd p i) with
    | false=>rfl
    | true=>rw [L.asym _ _ c] at c;exact nomatch c
  refine Gw.bind _ (O9 L (by exact o75 hm h1) (n - (m+1)) p (m+1) 0 hp (by exact o76 hm) (by exact o77 h1) hd t0) fun r hr=>?_
  refine Lz hr fun a1 a2 a3 a4 a5 a6=>?_
  by_cases q:r.2.2 > 0
  · rw [if_pos q]
    exact Sq L (Mn a1 _ _) _ (by exact o78 a4 q) (by exact o79 hm a3) (Sp (by rw [a1.size];exact o79 hm a3) a4 a5 a6)
  · rw [if_neg q]
    exact Sq L a1 _ (by exact o80 a4 q) (by exact o79 hm a3) a5
theorem Aal (L:Ltw lt) (hp:Pn n p) (h0:0 < n):Gw lt n (Cnt lt n) (kas_count n p):=by
  refine Gw.bind _ (Aaj L hp h0 (n - 1) 1 (zI _) fun i j hij hj=>by exact (o81 hj hij).elim) fun m hm=>?_
  refine Cm hm fun a1 a2 a3 a4=>?_
  rw [Nat.add_sub_cancel' (show 1 <= n from h0)] at a2 a4
  by_cases e:(m == n)=true
  · rw [if_pos e];exact ⟨hp,a1,a2,a3⟩
  · rw [if_neg e]
    have e':m≠n:=fun q=>e (by rw [q];exact beq_self_eq_true _)
    have c:lt (gd p m) (gd p (m - 1))=true:=a4.resolve_left e'
    have mn:m < n:=Nat.lt_of_le_of_ne a2 e'
    clear a2 a4 e e'
    have low:∀ i,i < m -> (∀ i j,i < m -> j < m -> lt (gd p i) (gd p j)=false) -> lt (gd p i) (gd p m)=false:=fun i hi al=>L.tr _ _ _ (L.asym _ _ c) (al i (m - 1) hi (by exact o44 a1))
    by_cases q:m > 1
    · rw [if_pos q]
      refine ⟨hp.low h0 _,hp.low h0 _,?_⟩
      cases c2:lt (p.getD 0 0) (p.getD (m - 1) 0) with
      | true=>exact ⟨hp,a1,zL mn,a3⟩
      | false =>
        simp only [Bool.false_eq_true,if_false]
        have top:∀ i,i < m -> lt (gd p (m - 1)) (gd p i)=false:=fun i hi=>by
          by_cases w:i=m - 1
          · subst w
            cases c3:lt (gd p (m - 1)) (gd p (m - 1)) with
            | false=>rfl
            | true=>rw [L.asym _ _ c3] at c3;exact nomatch c3
          · exact a3 i (m - 1) (by exact o82 hi q w) (by exact o83 q)
        have bot:∀ i,i < m -> lt (gd p i) (gd p 0)=false:=fun i hi=>by
          by_cases w:i=0
          · subst w
            cases c3:lt (gd p 0) (gd p 0) with
            | false=>rfl
            | true=>rw [L.asym _ _ c3] at c3;cases c3
          · exact a3 0 i (by exact o84 w) hi
        have al:∀ i j,i < m -> j < m -> lt (gd p i) (gd p j)=false:=fun i j hi hj=>L.tr _ _ _ (L.tr _ _ _ (top j hj) c2) (bot i hi)
        refine Ki L (Mn hp 0 m) m a1 mn fun i j hij hj=>?_
        have hz:m <= p.size:=by rw [hp.size];exact zL mn
        rw [Iq hz,Iq hz]
        clear hz mn h0 q a1
        by_cases w:j=m
        · rw [if_neg (show ¬ (0 <= j /\ j < m) by exact o85 w),if_pos (show 0 <= i /\ i < m by exact o86 hij w),w]
          exact low _ (by exact o87 hij w) al
        · rw [if_pos (show 0 <= j /\ j < m by exact o88 hj w),if_pos (show 0 <= i /\ i < m by exact o89 hj hij)]
          exact al _ _ (by exact o90 hj hij) (by exact o91 hj hij)
    · rw [if_neg q]
      have m1:m=1:=by exact o92 a1 q
      subst m1
      refine Ki L hp 1 (zI _) (by exact o93 mn) fun i j hij hj=>?_
      have:i=0 /\ j=1:=by exact o94 hj hij
      rw [this.1,this.2]
      exact L.asym _ _ c
theorem Nx (L:Ltw lt) (hp:Pn n p) (h0:0 < n) {k:Nat} (ha:Asc lt p k):∀ (f l r:Nat),l <= r -> r <= k -> r <= l+f -> (∀ i,i < l -> lt (gd p k) (gd p i)=false) -> (∀ i,r <= i -> i < k -> lt (gd p k) (gd p i)=true) ->
    Gw lt n (fun q=>q <= k /\ (∀ i,i < q -> lt (gd p k) (gd p i)=false) /\ ∀ i,q <= i -> i < k -> lt (gd p k) (gd p i)=true) (kas_place p k f l r)
  | 0,l,r,h1,h2,h3,h4,h5=>⟨by exact o95 h3 h1 h2,h4,fun i hi hk=>h5 i (by exact o96 h3 h1 hi) hk⟩
  | f+1,l,r,h1,h2,h3,h4,h5=>by
    unfold kas_place
    by_cases q:l ≥ r
    · rw [if_pos q];exact ⟨by exact o97 h1 h2 q,h4,fun i hi hk=>h5 i (by exact o98 h1 hi q) hk⟩
    · rw [if_neg q]
      refine ⟨hp.low h0 _,hp.low h0 _,?_⟩
      cases c:lt (p.getD k 0) (p.getD ((l+r) / 2) 0) with
      | true =>
        simp only [if_true]
        refine Nx L hp h0 ha f l _ (by exact o99 q) (by exact Aij h2 q) (by exact Aik h3) h4 fun i hi hk=>?_
        by_cases e:i=(l+r) / 2
        · rw [e];exact c
        · cases c2:lt (gd p k) (gd p i) with
          | true=>rfl
          | false =>
            have:=L.tr _ _ _ (ha ((l+r) / 2) i (by exact Ail hi e) hk) c2
            rw [show lt (gd p k) (gd p ((l+r) / 2))=true from c] at this
            exact nomatch this
      | false =>
        simp only [Bool.false_eq_true,if_false]
        refine Nx L hp h0 ha f _ r (by exact Aim q) h2 (by exact Ain h3) (fun i hi=>?_) h5
        by_cases e:i=(l+r) / 2
        · rw [e];exact c
        · exact L.tr _ _ _ (ha i ((l+r) / 2) (by exact Aio hi e) (by exact Aip h2 q)) c
theorem Ady (L:Ltw lt) (h0:0 < n):∀ (f:Nat) (p:Array Nat) (k:Nat),Pn n p -> k+f=n -> Asc lt p k -> Gw lt n (fun q=>Pn n q /\ Asc lt q n) (kas_bin f p k)
  | 0,p,k,hp,hk,ha=>by
    have:k=n:=by assumption
    exact ⟨hp,this▸ha⟩
  | f+1,p,k,hp,hk,ha=>by
    refine Gw.bind _ (Nx L hp h0 ha k 0 k (Nat.zero_le _) (zI _) (by exact Aiq) (fun i hi=>by exact (Agt hi).elim) fun i h1 h2=>by exact (Air h2 h1).elim) fun l hl=>?_
    refine An hl fun b1 b2 b3=>?_
    refine Ady L h0 f _ (k+1) (Adx hp _ _) (by exact Ais hk) fun i j hij hj=>?_
    have hz:k < p.size:=by rw [hp.size];exact Ait hk
    rw [Yo hz (by exact Agu b1),Yo hz (by exact Agu b1)]
    have e:k - (k - l)=l:=by exact Aiu b1
    rw [e]
    clear e hz h0 hk
    by_cases x1:i=l
    · rw [if_pos x1,if_neg (by exact Afc hij x1),if_pos (by exact Aiv hj hij x1)]
      exact L.asym _ _ (b3 (j - 1) (by exact Aiw hij x1) (by exact Afd hj hij))
    · rw [if_neg x1]
      by_cases x2:j=l
      · rw [if_pos x2,if_neg (by exact Aix hij x2)]
        exact b2 i (by exact Agv hij x2)
      · rw [if_neg x2]
        by_cases y1:l < i /\ i <= k
        · rw [if_pos y1,if_pos (by exact Aiy y1 hj hij)];exact ha _ _ (by exact Aiz y1 hij) (by exact Afd hj hij)
        · rw [if_neg y1]
          by_cases y2:l < j /\ j <= k
          · rw [if_pos y2];exact ha _ _ (by exact Ai0 y2 hj hij y1 x1 x2) (by exact Afd hj hij)
          · rw [if_neg y2];exact ha _ _ hij (by exact Ai1 hj hij b1 y1 y2 x2)
theorem Adz (L:Ltw lt) (h0:0 < n):Gw lt n (fun q=>Pn n q /\ Asc lt q n) (kas_sort n):=by
  refine Gw.bind _ (Aal L (Array.Perm.refl _) h0) fun r hr=>?_
  refine Cm hr fun a1 a2 a3 a4=>?_
  by_cases q:r.1 < n
  · rw [if_pos q]
    have e:max r.1 1=r.1:=by exact Ai2 a2
    rw [e]
    exact Ady L h0 _ _ _ a1 (by exact Ai3 e q) a4
  · rw [if_neg q]
    have e:r.1=n:=by exact Ai4 a3 q
    exact ⟨a1,e▸a4⟩
end
end Mine.Internal
namespace Mine.Internal
open PySem PySem.W PySem.Calls PyProof.Rows
section
variable {prog:Program} {w:World} {A:Around} {E:Value -> Shared -> Prop} {s:Shared} {it d:Addr} {es:Array DictEntry} {ep:Nat}
structure RawD (h:Heap) (d:Addr) (es:Array DictEntry) (ep:Nat):Prop where
  ex:∃ o,h.get? d=some o /\ o.ExactDict /\ o.data=.dict es ep
theorem RawD.type (x:RawD s.heap d es ep):s.TypeIs (.ref d) "dict":=let ⟨o,ho,hc,_⟩:=x.ex;⟨o,ho,hc.1⟩
theorem RawD.at {h h':Heap} (x:RawD h d es ep) (e:∀ o,h.get? d=some o -> h'.get? d=some o):RawD h' d es ep:=let ⟨o,ho,r⟩:=x.ex;⟨o,e o ho,r⟩
theorem RawD.lt {h:Heap} (x:RawD h d es ep):d < h.objs.size:=let ⟨_,ho,_⟩:=x.ex;Heap.lt_size ho
theorem Wd {Q:Value -> Shared -> Prop} (lo:(d == sysModules)=false) (x:RawD s.heap d es ep) (q:Q (.ref s.heap.objs.size) { s with heap:=s.heap.push { cls:=.type "dict_keyiterator",data:=.fields #[.ref d,.int 0 0,.int es.size 0,.int ep 0] } }):wpAny (model prog w) A (pyIter (.ref d)) Q E s:=by
  refine ex1 x.ex fun o zz=>An zz fun ho hc hd=>?_
  refine wpAny_pyIter_slot x.type F.slot_dict_iter (wpAny_call_entry F.slot_dict_iter x.type F.entry_dict_iter ?_ (F.args_dict_iter_1 _))
  unfold Builtin.«dict.__iter__»
  refine zB ?_
  unfold Builtin.Dict.dictSlotNone
  refine zB (wpAny_notOrdered_dict x.type ?_)
  refine zH ?_
  show wpAny _ _ (Builtin.Dict.showsAll d>>=_) _ _ s
  unfold Builtin.Dict.showsAll
  rw [if_neg (by rw [lo];exact Bool.false_ne_true)]
  refine zB (zH (zB (wpAny_dictEntries ho hd (zB (wpAny_dictEpoch ho hd ?_)))))
  exact zB (wpAny_newObj_type (zH ⟨_,rfl,"dict_keyiterator",_,⟨_,Heap.get?_push_size _ rfl,rfl⟩,F.slot_dict_keyiterator_next.lookup,q⟩))
theorem We {i:Nat} {e:DictEntry} {Q:Option Value -> Shared -> Prop} (hit:s.heap.IsKeyIter it d i es.size ep) (x:RawD s.heap d es ep) (he:es[i]?=some e)
    (q:∀ h',h'.IsKeyIter it d (i+1) es.size ep -> Heap.SameBut it s.heap h' -> Q (some e.key) { s with heap:=h' }):wpAny (model prog w) A (pyNext (.ref it)) Q E s:=by
  refine ex1 (id hit) fun o zz=>An zz fun ho hc hd=>?_
  refine ex1 x.ex fun od zz=>An zz fun hod _ hdd=>?_
  have hown:Builtin.Dict_items.ownsTuple "dict_keyiterator"=false:=by decide
  unfold pyNext
  refine zB (wpAny_attempt (wpAny_callSpecial?_slot (name:=Str.ofString "__next__") hit.typeIs F.slot_dict_keyiterator_next (wpAny_call_entry F.slot_dict_keyiterator_next hit.typeIs F.entry_dict_keyiterator_next ?_ (F.args_dict_keyiterator_next_1 _))))
  refine zB (zH (zB (zB ?_)))
  refine zB (wpAny_typeNameOfWhole_keyiter hit.typeIs (zH (zB (wpAny_fieldsOf ho hd ?_))))
  rw [hown]
  show wpAny _ _ (if (Value.ref d == Value.none)=true then _ else _) _ _ s
  rw [if_neg (show ¬ ((Value.ref d == Value.none)=true) from Bool.false_ne_true)]
  refine zB (zH (zB (wpAny_dictEntries hod hdd ?_)))
  rw [if_neg (by simp)]
  refine zB (zH (zB (wpAny_dictEpoch hod hdd ?_)))
  rw [if_neg (by simp)]
  refine zH ?_
  dsimp only
  rw [if_neg (show ¬ ((i:Int) < 0) from by exact Agw),Int.toNat_natCast,he]
  refine zB (zB (wpAny_typeNameOfWhole_keyiter hit.typeIs (zH (zB (wpAny_isOneOf_keyiter hit.typeIs ?_)))))
  show wpAny _ _ (setField (.ref it) 1 (rawInt ((i:Int)+1))>>=_) _ _ s
  refine zB (wpAny_setField ho hd (by simp) ?_)
  have hit':(s.heap.update it (Obj.mapFields (·.setIfInBounds 1 (rawInt ((i:Int)+1))))).IsKeyIter it d (i+1) es.size ep :=
    ⟨_,Heap.get?_update_self _ ho (Obj.isFreed_of_fields (Obj.data_mapFields hd _)),(Obj.cls_mapFields ..).trans hc,by rw [Obj.data_mapFields hd];simp [rawInt]⟩
  refine zB (wpAny_holding (zB (wpAny_isOneOf_keyiter (s:={ s with heap:=s.heap.update it (Obj.mapFields (·.setIfInBounds 1 (rawInt ((i:Int)+1)))) }) hit'.typeIs ?_)))
  show wpAny _ _ (pure e.key) _ _ _
  exact zH (zH ⟨_,rfl,zH (q _ hit' (Heap.SameBut.update ..))⟩)
theorem Aam {i:Nat} {Q:Option Value -> Shared -> Prop} (hh:A.handled=none) (hit:s.heap.IsKeyIter it d i es.size ep) (x:RawD s.heap d es ep) (he:es[i]?=none)
    (q:∀ h',Heap.ExtBut it s.heap h' -> Q none { s with heap:=h' }):wpAny (model prog w) A (pyNext (.ref it)) Q E s:=by
  refine ex1 (id hit) fun o zz=>An zz fun ho hc hd=>?_
  refine ex1 x.ex fun od zz=>An zz fun hod _ hdd=>?_
  have hown:Builtin.Dict_items.ownsTuple "dict_keyiterator"=false:=by decide
  unfold pyNext
  refine zB (wpAny_attempt (wpAny_callSpecial?_slot (name:=Str.ofString "__next__") hit.typeIs F.slot_dict_keyiterator_next (wpAny_call_entry F.slot_dict_keyiterator_next hit.typeIs F.entry_dict_keyiterator_next ?_ (F.args_dict_keyiterator_next_1 _))))
  refine zB (zH (zB (zB ?_)))
  refine zB (wpAny_typeNameOfWhole_keyiter hit.typeIs (zH (zB (wpAny_fieldsOf ho hd ?_))))
  rw [hown]
  show wpAny _ _ (if (Value.ref d == Value.none)=true then _ else _) _ _ s
  rw [if_neg (show ¬ ((Value.ref d == Value.none)=true) from Bool.false_ne_true)]
  refine zB (zH (zB (wpAny_dictEntries hod hdd ?_)))
  rw [if_neg (by simp)]
  refine zB (zH (zB (wpAny_dictEpoch hod hdd ?_)))
  rw [if_neg (by simp)]
  refine zH ?_
  dsimp only
  rw [if_neg (show ¬ ((i:Int) < 0) from by exact Agw),Int.toNat_natCast,he]
  refine zB (zB (wpAny_typeNameOfWhole_keyiter hit.typeIs (zH ?_)))
  show wpAny _ _ (setField (.ref it) 0 .none>>=_) _ _ s
  refine zB (wpAny_setField ho hd (by simp) ?_)
  show wpAny _ _ (newExc (.type "StopIteration") []>>=_) _ _ _
  refine zB ?_
  simp only [newExc,newTuple]
  refine zB (wpAny_newObj_type ?_ (by size_fits))
  refine zB (m:=firstArgMember _ _) (wpAny_of_eq (a:=Value.none) (by first | rfl | (simp only [firstArgMember];rfl)) ?_)
  refine wpAny_newObj_type ?_ (by size_fits)
  simp only [raiseNew]
  refine zB (wpAny_handled ?_)
  rw [show A.in1.handled=none from hh]
  refine zB (zH (wpAny_throw ?_))
  refine zB (wpAny_isInstance (T:="StopIteration") (b:=true) ⟨_,Heap.get?_push_size _ rfl,rfl⟩ isSubtype_stop ?_)
  exact zH (q _ (((Heap.SameBut.update ..).extBut.push _).push _))
theorem Aan (lo:(d == sysModules)=false):KdlSrc prog w "dict" d d es.size (fun i v=>∃ e,es[i]?=some e /\ v=e.key) (fun h=>RawD h d es ep) where
  type:=fun _ x=>x.type
  there:=fun _ x=>⟨x.lt,x.lt⟩
  keep:=fun _ _ x hk=>x.at fun o e=>hk d (.inl rfl) o e
  notList:=by decide
  notTuple:=by decide
  hint:=fun _ _ _ _ x q=>kdl_hint_dict x.type q
  iter:=fun A s hh x=>⟨_,fun i h=>h.IsKeyIter s.heap.objs.size d i es.size ep /\ RawD h d es ep,(fun _ _ q=>Wd lo x q),{
    sub:=fun b hb=>by simp at hb;simp [hb]
    frame:=fun _ _ _ st hk=>⟨st.1.at fun o e=>hk _ (by simp) o e,st.2.at fun o e=>hk d (by simp) o e⟩
    item:=fun i s' Q E hi st hQ=>by
      refine We st.1 st.2 (Array.getElem?_eq_getElem hi) fun h' hit' hs'=>?_
      exact hQ _ h' s'.toks ⟨_,Array.getElem?_eq_getElem hi,rfl⟩ ⟨hit',st.2.at fun o e=>hs'.extBut d o (Nat.ne_of_lt x.lt) e⟩ fun b o hb e=>hs'.extBut b o (fun h=>hb (by simp [h])) e
    done:=fun s' Q E st hQ=>Aam hh st.1 st.2 (by simp) fun h' he'=>hQ h' s'.toks fun b o hb e=>he' b o (fun h=>hb (by simp [h])) e
    self:=fun _ _ _ _ st hQ=>wpAny_pyIter_keyiter st.1 hQ },⟨⟨_,Heap.get?_push_size _ rfl,rfl,rfl⟩,x.at fun o e=>Heap.get?_push_of_some _ e⟩⟩
end
section
variable {cx:Cx} {A:Around} {xs:List Val} {ρ:Rho} {H:Hp} {s:Shared}
theorem Wf {h:Heap} {es:List (Key × Val)} {zs:List (List Int × Addr × Value)} (r:DRs cx ρ h es zs):VRs cx ρ h (es.map fun p=>Aa p.1) (zs.map fun x=>.ref x.2.1):=by
  induction r with
  | nil=>exact .nil
  | cons _ n _ ih=>exact .cons n ih
theorem Ny {l:Nat} {q:Addr × Addr} {E:Value -> Shared -> Prop} {Q:List Value -> Shared -> Prop} (hh:A.handled=none) (R:Rel cx H ρ s) (hq:ρ[l]?=some q) (hx:Dm l H=some xs) (hl:xs.length <= sizeLine)
    (k:∀ h' tk vs,(∀ b o,s.heap.get? b=some o -> h'.get? b=some o) -> VRs cx ρ h' xs vs -> Q vs { s with heap:=h',toks:=tk }):wpAny (model cx.prog cx.w) A (collect (.ref q.1)) Q E s:=by
  refine Adb (C:=fun xs=>xs.length <= sizeLine -> (∀ h' tk vs,(∀ b o,s.heap.get? b=some o -> h'.get? b=some o) -> VRs cx ρ h' xs vs -> Q vs { s with heap:=h',toks:=tk }) -> wpAny (model cx.prog cx.w) A (collect (.ref q.1)) Q E s) hx ?_ ?_ hl k
  · intro xs hl z k
    refine Af fun G kG=>?_
    refine ex2 (R.listAt hl hq) fun vs n zz=>Cm zz fun _ g r _=>?_
    refine kG ?_
    have kp:∀ b o,s.heap.get? b=some o -> ((s.heap.push (seqObj "list" #[] 0)).update s.heap.objs.size (Obj.mapSeq (·++vs.toArray))).get? b=some o:=fun b o e =>
      (Heap.get?_update_other _ _ (Nat.ne_of_gt (Heap.lt_size e))).trans (Heap.get?_push_of_some _ e)
    exact collect_list (vs:=vs) ⟨_,g,rfl,n,rfl⟩ (k _ s.toks vs kp (r.step (Full.more kp).step)) (by rw [<- r.length];exact z)
  · intro es hl z k
    refine Af fun G kG=>?_
    refine ex1 (R.dictAt hl hq) fun zs zz=>Cm zz fun _ D r _=>?_
    refine ex3 D fun o ds ep zz=>Lz zz fun ho hc hd he hk _=>?_
    refine kG ?_
    have zl:zs.length=ds.size:=by have:=congrArg List.length he;rw [List.length_map,Array.length_toList] at this;exact this.symm
    have el:es.length=zs.length:=r.length.symm
    refine kdu_collect (Aan (es:=ds) (ep:=ep) (Ek R hq)) hh ⟨o,ho,hc,hd⟩ (by rw [List.length_map] at z;exact Ai5 zl el z) fun h' tk acc kp it=>?_
    refine k h' tk acc.toList kp ?_
    have e:acc.toList=zs.map fun x=>Value.ref x.2.1:=by
      refine List.ext_getElem? fun i=>?_
      by_cases c:i < acc.size
      · have e1:acc[i]?=some acc[i]:=Array.getElem?_eq_getElem c
        refine ex1 (it.2 i _ e1) fun e zz=>Ac zz fun e2 e3=>?_
        rw [Array.getElem?_toList,e1,e3]
        rw [<- Array.getElem?_toList,he,List.getElem?_map] at e2
        refine ex1 (Option.map_eq_some_iff.mp e2) fun x zz=>Ac zz fun e4 e5=>?_
        rw [List.getElem?_map,e4,<- e5];rfl
      · have:=it.1
        rw [List.getElem?_eq_none (by rw [Array.length_toList];exact Zj c),List.getElem?_eq_none (by rw [List.length_map];exact Ai6 zl this c)]
    rw [e]
    exact Wf (r.step (Full.more kp).step)
end
end Mine.Internal
namespace Mine.Internal
open PySem PySem.W PyProof.Rows
section
variable {cx:Cx} {A:Around} {P:Amb} {xs:List Val} {ρ:Rho} {H:Hp} {s:Shared}
theorem Wg (vs:List Value) (h:vs.length < 2):(vs.toArray.zip vs.toArray).map (·.2)=List.toArray ((List.range vs.length).toArray.toList.map fun i=>vs.getD i Value.none):=by
  apply Array.toList_inj.mp
  cases vs with
  | nil=>simp
  | cons v l =>
    cases l with
    | nil=>simp [List.range_succ]
    | cons _ _=>exact absurd h (by simp)
set_option backward.match.sparseCases true in
theorem Aao {prog:Program} {w:World} {a:Addr} {vs:List Value} {n:Nat} {P:PySem.Fin -> Shared -> Prop} {E:Value -> Shared -> Prop} {G:Array Nat -> Prop} (ho:s.heap.get? a=some (Bq vs n)) (h64:vs.length < 64)
    (small:vs.length < 2 -> G (List.range vs.length).toArray)
    (ask:∀ h',(∀ b o,b≠a -> s.heap.get? b=some o -> h'.get? b=some o) -> 2 <= vs.length -> ∀ (Q:SortKind -> Shared -> Prop),(∀ κ,(∀ (R:Array Nat -> Shared -> Prop),(∀ p,G p -> R p { s with heap:=h' }) -> (kas_sort vs.length).kasWp (kas_ask prog w A κ vs) R { s with heap:=h' }) -> Q κ { s with heap:=h' }) -> wpAny (model prog w) A (keyKind' vs.toArray) Q E { s with heap:=h' })
    (k:∀ h' p c,G p -> (∀ b o,b≠a -> s.heap.get? b=some o -> h'.get? b=some o) -> h'.get? a=some (Bq (p.toList.map fun i=>vs.getD i .none) c) -> P (.done (.ret .none)) { s with heap:=h' }) :
    wpAny (model prog w) A (Builtin.«list.sort» ⟨[.ref a],[]⟩) P E s:=by
  have ha:a < s.heap.objs.size:=Heap.lt_size ho
  have s1:=Heap.SameBut.update s.heap a (Obj.mapSeq fun _=>(#[]:Array Value))
  obtain ⟨e1,ho1⟩:∃ e1,(s.heap.update a (Obj.mapSeq fun _=>(#[]:Array Value))).get? a=some (Bq [] e1):=⟨_,get?_update_seq ho fun _=>#[]⟩
  have kp:∀ b o,b≠a -> s.heap.get? b=some o -> (((s.heap.update a (Obj.mapSeq fun _=>(#[]:Array Value))).push (seqObj "tuple" vs.toArray 0)).push (seqObj "list" #[] 0)).get? b=some o:=fun b o nb e=>Heap.get?_push_of_some _ (Heap.get?_push_of_some _ (s1.extBut b o nb e))
  have g1:(((s.heap.update a (Obj.mapSeq fun _=>(#[]:Array Value))).push (seqObj "tuple" vs.toArray 0)).push (seqObj "list" #[] 0)).get? a=some (Bq [] e1):=Heap.get?_push_of_some _ (Heap.get?_push_of_some _ ho1)
  generalize hh:((s.heap.update a (Obj.mapSeq fun _=>(#[]:Array Value))).push (seqObj "tuple" vs.toArray 0)).push (seqObj "list" #[] 0)=h1 at kp g1
  have last:∀ (p:Array Nat) (st':SortSt),G p -> p.size=vs.length -> (arrOf st').map (·.2)=List.toArray (p.toList.map fun i=>vs.getD i Value.none) -> failedOf st'=none -> wpAny (model prog w) A (do
      let sorted:=(arrOf st').map (·.2)
      let touched:=(<- seqEpoch a) != e1
      Builtin.List.listUpdate (.ref a) fun _=>sorted
      if let some e:=failedOf st' then rule "list.sort.comparison-raised";throw e
      if touched then rule "list.sort.modified";raiseError "ValueError" "list modified during sort"
      ret .none) P E { s with heap:=h1 }:=by
    intro p st' hG hp hout hf
    rw [hout]
    dsimp only
    refine zB (seqEpoch_at g1 rfl ?_)
    have hsz:(List.toArray (p.toList.map fun i=>vs.getD i Value.none)).size=vs.length:=by rw [List.size_toArray,List.length_map,Array.length_toList,hp]
    refine zB (listUpdate_at g1 rfl ?_ (Nat.zero_le _) (zC (zG hsz) (by rw [sizeLine_eq];exact Ai7 h64 hp hsz)))
    rw [hf]
    simp only [bne_self_eq_false,Bool.false_eq_true,if_false]
    refine zH (k _ p _ hG (fun b o nb e=>(Heap.get?_update_other _ _ (Ne.symm nb)).trans (kp b o nb e)) (get?_update_seq g1 fun _=>List.toArray (p.toList.map fun i=>vs.getD i Value.none)))
  rw [list_sort_plain]
  refine zB (listItems_at ho rfl ?_)
  refine zB (listUpdate_at ho rfl ?_ (by rw [List.size_toArray,sizeLine_eq];exact Afe h64) (Nat.zero_le _))
  refine zB (seqEpoch_at ho1 rfl ?_)
  refine zB (wpAny_newTuple ?_ (by show vs.length <= _;rw [sizeLine_eq];exact Afe h64))
  refine zB (wpAny_newList ?_ (Nat.zero_le _))
  refine wpAny_holding ?_
  show wpAny (model prog w) A _ P E { s with heap:=((s.heap.update a (Obj.mapSeq fun _=>(#[]:Array Value))).push (seqObj "tuple" vs.toArray 0)).push (seqObj "list" #[] 0) }
  rw [hh]
  dsimp only
  by_cases h2:vs.toArray.size < 2
  · rw [if_pos h2,if_pos h2]
    rw [List.size_toArray] at h2
    refine zB (zH ?_)
    refine zB (zH ?_)
    refine last (List.range vs.length).toArray _ (small h2) (by simp) ?_ rfl
    exact Wg vs h2
  · rw [if_neg h2,if_neg h2]
    have h2':2 <= vs.length:=by rw [List.size_toArray] at h2;exact Ai8 h64 h2
    refine zB (ask h1 kp h2' _ fun κ hk=>?_)
    refine zB (zE (kat_run (Q:=fun st' s'=>s'={ s with heap:=h1 } /\ ∃ p:Array Nat,p.size=vs.length /\ G p /\ arrOf st'=p.map (kas_item (vs.toArray.zip vs.toArray)) /\ failedOf st'=none) (G:=fun p s'=>s'={ s with heap:=h1 } /\ G p) rfl h2' h64
      (fun p' st' s' a1 a2 a3 a4=>⟨a4.1,p',a1,a4.2,a2,a3⟩) (hk _ fun p hp=>⟨rfl,hp⟩)) ?_ fun _ _ e=>e)
    rintro ⟨⟨⟩,st'⟩ s' ⟨rfl,p,hp,hG,har,hf⟩
    exact last p st' hG hp (kat_snds rfl har) hf
theorem Aap (R:Rel cx H ρ s) {Q:Bool -> Shared -> Prop} {k:Nat} (hk:A.units+20+k < cLine) {r:Bool} (hQ:Q r s) (ms:List Val):∀ (ks:List Val) (vs ws:List Value) (i:Nat),VRs cx ρ s.heap ms vs -> VRs cx ρ s.heap ks ws -> lts (G9 []) (Ja k) ms ks=some r ->
    (i=0 -> ∃ x y ms' ks',ms=.int x :: ms' /\ ks=.int y :: ks') -> KatLex cx.prog cx.w A true (decide (i+ms.length < i+ks.length)) Q (vs.zip ws) i s:=by
  induction ms with
  | nil =>
    intro ks vs ws i q1 q2 h _
    cases q1
    cases ks with
    | nil =>
      cases h
      rw [decide_eq_false (Nat.lt_irrefl _)];exact hQ
    | cons y ks =>
      cases h
      have:decide (i+([]:List Val).length < i+(y :: ks).length)=true:=decide_eq_true (Nat.lt_add_of_pos_right (Nat.succ_pos _))
      rw [this];exact hQ
  | cons x ms ih =>
    intro ks vs ws i q1 q2 h hi
    cases q1 with
    | cons a1 q1 =>
      cases q2 with
      | nil =>
        cases h
        have:decide (i+(x :: ms).length < i+([]:List Val).length)=false:=decide_eq_false (Nat.not_lt.mpr (zM i _))
        rw [this];exact hQ
      | @cons y _ ks _ a2 q2 =>
        refine kat_cons ?_
        rcases Ov h with ⟨he,hl⟩ | ⟨he,hl⟩
        · refine Hf R a1 a2 (O0 he) (by exact Agx hk) ?_
          refine kat_yes ?_
          have:=ih ks _ _ (i+1) q1 q2 hl (fun q=>absurd q (Nat.succ_ne_zero _))
          rw [Nat.add_right_comm i 1,Nat.add_right_comm i 1] at this
          exact this
        · refine Hf R a1 a2 (O0 he) (by exact Agx hk) ?_
          refine kat_no ?_
          by_cases q:i=0
          · refine ex4 (hi q) fun u v _ _ zz=>Ac zz fun e1 e2=>?_
            cases e1;cases e2
            obtain ⟨t,hr0⟩:=a1.int_inv;refine Eq.symm hr0▸?_
            obtain ⟨t',hr1⟩:=a2.int_inv;refine Eq.symm hr1▸?_
            refine Eq.symm q▸?_
            have hr:r=decide (u < v):=by
              cases k with
              | zero=>cases hl
              | succ k=>exact (Option.some.inj hl).symm
            exact oneLt_int (by rw [<- hr];exact hQ)
          · rw [show (true && i == 0)=false by simp [q]]
            exact kat_one _ _ (R6 R k A _ _ _ _ r _ _ a1 a2 hl (by assumption) hQ)
theorem VRs.getD {h:Heap} {ms:List Val} {vs:List Value} (r:VRs cx ρ h ms vs) {i:Nat} (hi:i < ms.length):VR cx ρ h (ms.getD i .none) (vs.getD i .none):=by
  have e:ms[i]?=some ms[i]:=List.getElem?_eq_getElem hi
  refine ex1 (r.get e) fun v zz=>Ac zz fun hv x=>?_
  rw [List.getD_eq_getElem?_getD,List.getD_eq_getElem?_getD,e,hv]
  exact x
theorem Sr {h:Heap}:∀ {ms:List Val} {vs:List Value},VRs cx ρ h ms vs -> (∀ x∈ms,∃ i r,x=.tup (.int i :: r)) -> ∃ fs,KatTups h vs fs /\ fs.length=vs.length /\ ∀ f∈fs,∃ i t,f=.int i t
  | _,_,.nil,_=>⟨[],trivial,rfl,fun f hf=>by cases hf⟩
  | _,_,.cons a r,hm=>by
    refine Af fun G kG=>?_
    refine ex1 (Sr r fun x hx=>hm x (.tail _ hx)) fun fs zz=>An zz fun h1 h2 h3=>?_
    refine ex2 (hm _ (.head _)) fun i q zr2=>?_;subst zr2
    refine ex3 a.tup_inv fun p vs n zz=>An zz fun zr3 g r=>?_;subst zr3
    refine kG ?_
    cases r with
    | cons b r =>
      obtain ⟨t,rfl⟩:=b.int_inv
      refine ⟨.int i t :: fs,KatTups.cons g rfl rfl (by simp) h1,by simp [h2],fun f hf=>?_⟩
      cases hf with
      | head=>exact ⟨i,t,rfl⟩
      | tail _ hf=>exact h3 f hf
theorem Aaq {h:Heap}:∀ {ms:List Val} {vs:List Value},VRs cx ρ h ms vs -> (∀ x∈ms,∃ i,x=.int i) -> ∃ ns,IntsAre vs ns
  | _,_,.nil,_=>⟨[],.nil⟩
  | _,_,.cons a r,hm=>by
    obtain ⟨ns,h1⟩:=Aaq r fun x hx=>hm x (.tail _ hx)
    obtain ⟨i,rfl⟩:=hm _ (.head _)
    obtain ⟨t,rfl⟩:=a.int_inv
    exact ⟨i :: ns,.cons i t h1⟩
noncomputable def ix (n i:Nat):Nat:=if i < n then i else 0
theorem Aga {n:Nat} (h0:0 < n) (i:Nat):ix n i < n:=by unfold ix;split <;> assumption
theorem Ad0 {lt:Val -> Val -> Bool} (O:Order xs lt) (h0:0 < xs.length):Ltw fun i j=>lt (xs.getD (ix xs.length i) .none) (xs.getD (ix xs.length j) .none):=by
  have m:∀ i,xs.getD (ix xs.length i) .none∈xs:=fun i=>by
    rw [List.getD_eq_getElem?_getD,List.getElem?_eq_getElem (Aga h0 i)]
    exact List.getElem_mem _
  exact ⟨fun i j=>O.asym _ (m i) _ (m j),fun i j k=>O.tr _ (m i) _ (m j) _ (m k)⟩
theorem Pa {h:Heap} {ms:List Val} {vs:List Value} (r:VRs cx ρ h ms vs):∀ (l:List Nat),(∀ i∈l,i < ms.length) -> VRs cx ρ h (l.map fun i=>ms.getD i .none) (l.map fun i=>vs.getD i .none)
  | [],_=>.nil
  | i :: l,hl=>.cons (r.getD (hl i (.head _))) (Pa r l fun j hj=>hl j (.tail _ hj))
theorem Nz {lt:Val -> Val -> Bool} (O:Order xs lt) {p:Array Nat} (hp:Pn xs.length p) (ha:Asc (fun i j=>lt (xs.getD (ix xs.length i) .none) (xs.getD (ix xs.length j) .none)) p xs.length):Ha xs (p.toList.map fun i=>xs.getD i .none):=by
  have hp':=Array.perm_iff_toList_perm.mp hp
  have e:(List.range xs.length).map (fun i=>xs.getD i Val.none)=xs:=by
    apply List.ext_getElem?
    intro k
    rw [List.getElem?_map]
    by_cases q:k < xs.length
    · rw [List.getElem?_range q]
      simp [q]
    · rw [List.getElem?_eq_none (by simpa using q),List.getElem?_eq_none (by simpa using q)];rfl
  have lo:∀ i∈p.toList,i < xs.length:=fun i hi=>by
    have:=hp'.mem_iff.mp hi
    simpa using this
  refine ⟨?_,?_⟩
  · have:=hp'.map (fun i=>xs.getD i Val.none)
    rwa [show (List.range xs.length).toArray.toList=List.range xs.length from rfl,e] at this
  · rw [List.pairwise_map]
    rw [List.pairwise_iff_getElem]
    intro i j hi hj hij
    have zi:i < p.size:=by simpa using hi
    have zj:j < p.size:=by simpa using hj
    have hs:=hp.size
    have a:=ha i j hij (by exact Agv zj hs)
    have ei:gd p i=p.toList[i]:=by simp [gd,Array.getD,zi]
    have ej:gd p j=p.toList[j]:=by simp [gd,Array.getD,zj]
    dsimp only at a
    rw [ei,ej] at a
    have li:=lo _ (List.getElem_mem hi)
    have lj:=lo _ (List.getElem_mem hj)
    unfold ix at a
    rw [if_pos li,if_pos lj] at a
    have m:∀ k,k < xs.length -> xs.getD k .none∈xs:=fun k hk=>by
      rw [List.getD_eq_getElem?_getD,List.getElem?_eq_getElem hk]
      exact List.getElem_mem _
    rw [O.is _ (m _ lj) _ (m _ li),a]
theorem Qf {a:Val} {v:Value} (hh:A.handled=none) (hu:A.units+100 < cLine) (h1:∀ ρ h,P.P ρ h -> VR cx ρ h a v):Sim cx A P (call (.builtin "sorted") [v]) (bfV .sorted [a]) (Amb.vr cx):=by
  intro H ρ s0 R0 p
  have x:=h1 _ _ p
  cases x with
  | @loc l q hq =>
    show Bf cx A (match (Dm l H).bind Fp with
      | some ys=>M.alloc (.list ys) H
      | none=>.bad) _ _ ρ s0
    cases hs0:(Dm l H).bind Fp with
    | none=>trivial
    | some ys =>
        refine Af fun G kG=>?_
        refine ex1 (Option.bind_eq_some_iff.mp hs0) fun xs zz=>Ac zz fun hx hs=>?_
        obtain ⟨⟨few,kind,lt,O⟩,srt⟩:=Nk hs
        refine kG ?_
        refine (show wpAny _ _ _ _ _ _ from ?_)
        refine Calls.call_function_entry kind_sorted plain_sorted entry_sorted (args_sorted1 _) ?_
        unfold Builtin.«sorted»
        refine zB (m:=checkCount "sorted" 1 1 _) (zH ?_)
        refine zB (Ny hh R0 hq hx (by rw [sizeLine_eq];exact Afe few) fun h1' tk vs kp0 r=>?_)
        have R:Rel cx H ρ { s0 with heap:=h1',toks:=tk }:=R0.more (tk:=tk) kp0
        have F0:Full ρ s0.heap ρ h1':=Full.more kp0
        generalize hs1:({ s0 with heap:=h1',toks:=tk }:Shared)=s at R
        have F1:Full ρ s0.heap ρ s.heap:=by rw [<- hs1];exact F0
        have r:VRs cx ρ s.heap xs vs:=by rw [<- hs1];exact r
        clear F0 kp0 hs1
        have len:=r.length
        have few':vs.length < 64:=by exact Ai9 few len
        refine zB (wpAny_newList ?_ (by rw [sizeLine_eq];exact Aja few len))
        have hoL:(s.heap.push (seqObj "list" vs.toArray 0)).get? s.heap.objs.size=some (Bq vs 0):=Heap.get?_push_size _ rfl
        have keep:∀ b o,s.heap.get? b=some o -> (s.heap.push (seqObj "list" vs.toArray 0)).get? b=some o:=fun b o q=>Heap.get?_push_of_some _ q
        show wpAny _ _ _ _ _ { s with heap:=s.heap.push (seqObj "list" vs.toArray 0) }
        generalize s.heap.push (seqObj "list" vs.toArray 0)=h0 at hoL keep
        have fr:s.heap.get? s.heap.objs.size=none:=Ao _
        have ne:∀ {b:Addr} {o:Obj},s.heap.get? b=some o -> b≠s.heap.objs.size:=fun {b o} e w=>by rw [w,fr] at e;exact nomatch e
        refine zB (wpAny_holding (wpAny_call_entry slot_list_sort ⟨_,hoL,rfl⟩ entry_list_sort ?body (args_list_sort _)))
        refine Aao (s:={ s with heap:=h0 }) (G:=fun p=>Pn xs.length p /\ Asc (fun i j=>lt (xs.getD (ix xs.length i) .none) (xs.getD (ix xs.length j) .none)) p xs.length) hoL few' (fun h2=>?_) (fun h' kp h2 Q kQ=>?_) fun h' p c hG kp e=>?_
        · rw [<- len]
          exact ⟨Array.Perm.refl _,fun i j hij hj=>by exact (Ajb h2 few hij hj len).elim⟩
        · have kp':∀ b o,s.heap.get? b=some o -> h'.get? b=some o:=fun b o e=>kp b o (ne e) (keep b o e)
          have R':Rel cx H ρ { s with heap:=h' }:=R.more (tk:=s.toks) kp'
          have r':VRs cx ρ h' xs vs:=r.step (Full.more kp').step
          have L:=Ad0 O (by exact Ajc h2 few len)
          have hu2:A.in1.in1.units+30 < cLine:=by simp only [Around.in1_units];exact Ajd hu
          have val:∀ i,i < xs.length -> xs.getD (ix xs.length i) Val.none=xs.getD i .none /\ xs.getD i .none∈xs:=fun i hi=>by
            refine ⟨by unfold ix;rw [if_pos hi],?_⟩
            rw [List.getD_eq_getElem?_getD,List.getElem?_eq_getElem hi]
            exact List.getElem_mem _
          · refine Af fun G kG=>?_
            refine ex1 (Sr r' kind) fun fs zz=>An zz fun hT hl2 hfs=>?_
            refine kG ?_
            refine kat_kind (s:={ s with heap:=h' }) (T:=.type "int") hT (by exact Aje h2 few len hl2) (fun f hf=>?_) rfl ?_
            · refine ex2 (hfs f hf) fun i t zr2=>?_;subst zr2
              exact .now
            · skip
              refine kQ _ fun R2 hR2=>?_
              rw [<- len]
              refine Gw.wp (lt:=fun i j=>lt (xs.getD (ix xs.length i) .none) (xs.getD (ix xs.length j) .none)) (fun i j C hi hj hC=>?_) hR2 _ (Adz L (by exact Ajf h2 few len hl2))
              obtain ⟨e1,m1⟩:=val i hi
              obtain ⟨e2,m2⟩:=val j hj
              dsimp only at hC
              rw [e1,e2] at hC
              have w1:=r'.getD hi
              have w2:=r'.getD hj
              have is:=O.is _ m1 _ m2
              refine Af fun G kG=>?_
              refine ex2 (kind _ m1) fun x ms hx=>?_
              refine ex2 (kind _ m2) fun y ks hy=>?_
              refine kG ?_
              rw [hx] at w1 is hC
              rw [hy] at w2 is hC
              refine Af fun G kG=>?_
              refine ex3 w1.tup_inv fun p1 us n1 zz=>An zz fun ht g1 q1=>?_
              refine ex3 w2.tup_inv fun p2 ws n2 zz=>An zz fun ht' g2 q2=>?_
              refine kG ?_
              show wpAny _ _ (keyLt' (tuples' true) (vs.getD i .none) (vs.getD j .none)) _ _ _
              rw [ht,ht']
              refine kat_lt (s:={ s with heap:=h' }) g1 rfl g2 rfl ?_
              have kl:=Aap (A:=A.in1.in1) R' (k:=5) (by exact Ajg hu2) hC _ _ _ _ 0 q1 q2 is (fun _=>⟨x,y,ms,ks,rfl,rfl⟩)
              rw [Nat.zero_add,Nat.zero_add,q1.length,q2.length] at kl
              simpa using kl
        · refine ⟨_,rfl,zH ⟨_,rfl,?_⟩⟩
          have kp':∀ b o,s.heap.get? b=some o -> h'.get? b=some o:=fun b o e=>kp b o (ne e) (keep b o e)
          have eq:ys=p.toList.map fun i=>xs.getD i .none:=Option.some.inj (hs.symm.trans (L5 ⟨few,kind,lt,O⟩ (Nz O hG.1 hG.2)))
          have lo:∀ i∈p.toList,i < xs.length:=fun i hi=>by
            have:=(Array.perm_iff_toList_perm.mp hG.1).mem_iff.mp hi
            simpa using this
          have yl:ys.length <= sizeLine:=by rw [srt.1.length_eq,sizeLine_eq];exact Ajh few len
          obtain ⟨F,R'⟩:=R.alloc (tk:=s.toks) (o:=.list ys) (p:=(s.heap.objs.size,s.heap.objs.size)) kp' ⟨fr,fr⟩
            (.list e (by rw [eq];exact Pa (r.step (Full.alloc kp' ⟨fr,fr⟩).step) _ lo) yl)
          refine ⟨_,F1.trans F,R',?_⟩
          rw [R.len]
          exact VR.loc (p:=(s.heap.objs.size,s.heap.objs.size)) (by rw [List.getElem?_append_right (zI _)];simp)
  | _=>trivial
end
end Mine.Internal
namespace Mine.Internal
open PySem
theorem Ba {α β γ:Type} (m:M α) (f:α -> M β) (g:β -> M γ):(m.bnd f).bnd g=m.bnd fun x=>(f x).bnd g:=by
  funext H
  unfold M.bnd
  cases m H <;> rfl
section
variable {α β:Type} {cx:Cx} {A:Around} {P:Amb} {t:Sem α} {m:M β} {V:β -> α -> Amb}
theorem Sim.rule {tag:String} {k:Unit -> Sem α} (x:Sim cx A P (k ()) m V):Sim cx A P (rule tag>>=k) m V:=x.pre fun _ _ _ h=>zB (wpAny_rule h)
theorem Sim.relse {vs keep:List Value} {k:Unit -> Sem α} (x:Sim cx A P (k ()) m V):Sim cx A P (release vs keep>>=k) m V:=x.pre fun _ _ _ h=>zB (wpAny_release h)
theorem Sim.oper {t:Sem Value} {V:β -> Value -> Amb} {vs:List Value} (x:Sim cx A P t m V):Sim cx A P (operate vs t) m V:=x.pre fun _ _ _ h=>fun Γ p hΓ=>by
  rw [Sem.wp_operate];exact h Γ p hΓ
theorem Sim.of_eq {t':Sem α} (e:t'=t) (x:Sim cx A P t m V):Sim cx A P t' m V:=e▸x
theorem Sim.of_m {m':M β} (e:m'=m) (x:Sim cx A P t m V):Sim cx A P t m' V:=e▸x
noncomputable abbrev BV:Bool -> Bool -> Amb:=fun b b'=>Amb.prop (b'=b)
end
section
variable {cx:Cx} {A:Around} {P:Amb} {env:Env} {Φ:Funs} {Γ:Env'}
structure EOk (cx:Cx) (A:Around) (P:Amb) (Φ:Funs) (env:Env) (Γ:Env') (m:ME) (e:Expr):Prop where
  val:Sim cx A P (eval e env) (Ak cx.T Φ m Γ) (Amb.vr cx)
  tru:Sim cx A P (isTrue e env (eval e env)) ((Ak cx.T Φ m Γ).bnd C1) BV
theorem Gx {a:Val} {v:Value}:Sim cx A (P.and (Amb.vr cx a v)) (truthy v) (C1 a) BV:=Qa fun _ _ p=>p.2
theorem EOk.of {m:ME} {e:Expr} (x:Sim cx A P (eval e env) (Ak cx.T Φ m Γ) (Amb.vr cx)) (h:isTrue e env (eval e env)=(do let v <- eval e env;standAt e.pos;holding [v] (truthy v))):EOk cx A P Φ env Γ m e :=
  ⟨x,Sim.of_eq h (x.bind fun b a=>Sim.stand (Sim.holding Gx))⟩
theorem Sim.and1 {α β:Type} {t:Sem α} {m:M β} {V:β -> α -> Amb} {Q:Amb} (x:Sim cx A P t m V):Sim cx A (P.and Q) t m V:=x.weak fun _ _ p=>p.1
theorem Ss {op:BOp} {o:Operator} {a b:ME} {l r:Expr} {pos:Pos} (ho:Ae3 op o=true) (x:EOk cx A P Φ env Γ a l) (y:EOk cx A P Φ env Γ b r):EOk cx A P Φ env Γ (.bin op a b) (.BinOp l o r pos):=by
  refine EOk.of ?_ rfl
  exact x.val.bind fun x1 v=>(Sim.holding y.val.and1).bind fun y1 w=>Sim.stand (Sim.oper (Z0 ho (fun _ _ p=>p.1.2) fun _ _ p=>p.2))
theorem Aar {a:ME} {l:Expr} {pos:Pos} (x:EOk cx A P Φ env Γ a l):EOk cx A P Φ env Γ (.neg a) (.UnaryOp .USub l pos):=by
  refine EOk.of ?_ rfl
  exact x.val.bind fun x1 v=>Sim.stand (Sim.holding (Z1 fun _ _ p=>p.2))
theorem Aas {a:ME} {l:Expr} {pos:Pos} (x:EOk cx A P Φ env Γ a l):EOk cx A P Φ env Γ (.not a) (.UnaryOp .Not l pos):=by
  refine ⟨?_,?_⟩
  · skip
    exact x.val.bind fun x1 v=>Sim.stand (Sim.holding (Z2 fun _ _ p=>p.2))
  · rw [arm_isTrue_UnaryOp,Ac6]
    refine Sim.of_m (m:=((Ak cx.T Φ a Γ).bnd C1).bnd fun b=>M.ret (!b)) ?_ (x.tru.bind fun b b'=>Sim.ret fun ρ h p=>?_)
    · rw [Ba,Ba]
      congr 1;funext x1
      rw [Ba]
      congr 1
    · have:b'=b:=p.2
      show (!b')=!b
      rw [this]
theorem Aat {α:Type} (m:M α):(m.bnd fun b=>M.ret b)=m:=by
  funext H
  unfold M.bnd
  cases m H <;> rfl
noncomputable def Vi (cx:Cx) (A:Around) (P:Amb) (Φ:Funs) (env:Env) (Γ:Env') (op:BoolOp) (pos:Pos) (m:ME) (ys:List Expr):Prop :=
  Sim cx A P (boolOp pos op (evalEach ys env)) (Ak cx.T Φ m Γ) (Amb.vr cx) /\ Sim cx A P (allTrue op ys env) ((Ak cx.T Φ m Γ).bnd C1) BV
theorem Vi.one {op:BoolOp} {pos:Pos} {m:ME} {y:Expr} (x:EOk cx A P Φ env Γ m y):Vi cx A P Φ env Γ op pos m [y]:=by
  refine ⟨x.val,?_⟩
  refine Sim.of_m (Aat _).symm (x.tru.bind fun b b'=>?_)
  intro H ρ s R p
  have e:b'=b:=p.2
  subst e
  cases op <;> cases b' <;> exact zH ⟨ρ,Full.refl _ _,R,rfl⟩
theorem Vi.more {op:BoolOp} {pos:Pos} {m:ME} {y:Expr} {rest:List Expr} (x:EOk cx A P Φ env Γ m (.BoolOp op (y :: rest) pos)):Vi cx A P Φ env Γ op pos m (y :: rest):=⟨x.val,x.tru⟩
theorem E6 {a:Val} {v:Value}:Sim cx A (P.and (Amb.vr cx a v)) (truthy v) (C1 a) (fun b b'=>Amb.prop (b'=b /\ v=.bool b)):=by
  intro H ρ s R p
  have x:VR cx ρ s.heap a v:=p.2
  cases x with
  | bool b=>exact At R fun Q E k=>wpAny_truthy_bool (k _ s.toks ⟨rfl,rfl⟩)
  | _=>trivial
set_option backward.match.sparseCases true in
theorem Aau {a b:ME} {x y:Expr} {rest:List Expr} {pos:Pos} (hx:EOk cx A P Φ env Γ a x) (hy:Vi cx A P Φ env Γ .And pos b (y :: rest)):EOk cx A P Φ env Γ (.and a b) (.BoolOp .And (x :: y :: rest) pos):=by
  refine ⟨?_,?_⟩
  · skip
    refine hx.val.bind (f:=fun v=>do
      standAt pos
      let t <- holding [v] (truthy v)
      match BoolOp.And,t with
      | .And,false | .Or,true=>pure v
      | _,_=>boolOp pos .And (evalEach (y :: rest) env)) fun x1 v=>Sim.stand ((Sim.holding E6).bind fun b b'=>?_)
    intro H ρ s R p
    obtain ⟨e1,e2⟩:b'=b /\ v=.bool b:=p.2
    subst e1 e2
    cases b' with
    | true=>exact hy.1 H ρ s R p.1.1
    | false=>exact zH ⟨ρ,Full.refl _ _,R,.bool _⟩
  · rw [arm_isTrue_BoolOp,arm_allTrue_cons,Ac7]
    refine Sim.of_m (m:=((Ak cx.T Φ a Γ).bnd C1).bnd fun t=>match t with
      | true=>(Ak cx.T Φ b Γ).bnd C1
      | false=>M.ret false) ?_ (hx.tru.bind fun b b'=>?_)
    · rw [Ba,Ba]
      congr 1;funext x1
      rw [Ba]
      congr 1;funext t
      cases t <;> rfl
    · intro H ρ s R p
      have e:b'=b:=p.2
      refine e▸?_
      cases b' with
      | true=>exact hy.2 H ρ s R p.1
      | false=>exact zH ⟨ρ,Full.refl _ _,R,rfl⟩
set_option backward.match.sparseCases true in
theorem Ad1 {a b:ME} {x y:Expr} {rest:List Expr} {pos:Pos} (hx:EOk cx A P Φ env Γ a x) (hy:Vi cx A P Φ env Γ .Or pos b (y :: rest)):EOk cx A P Φ env Γ (.or a b) (.BoolOp .Or (x :: y :: rest) pos):=by
  refine ⟨?_,?_⟩
  · skip
    refine hx.val.bind (f:=fun v=>do
      standAt pos
      let t <- holding [v] (truthy v)
      match BoolOp.Or,t with
      | .And,false | .Or,true=>pure v
      | _,_=>boolOp pos .Or (evalEach (y :: rest) env)) fun x1 v=>Sim.stand ((Sim.holding E6).bind fun b b'=>?_)
    intro H ρ s R p
    obtain ⟨e1,e2⟩:b'=b /\ v=.bool b:=p.2
    subst e1 e2
    cases b' with
    | false=>exact hy.1 H ρ s R p.1.1
    | true=>exact zH ⟨ρ,Full.refl _ _,R,.bool _⟩
  · rw [arm_isTrue_BoolOp,arm_allTrue_cons,Afo]
    refine Sim.of_m (m:=((Ak cx.T Φ a Γ).bnd C1).bnd fun t=>match t with
      | true=>M.ret true
      | false=>(Ak cx.T Φ b Γ).bnd C1) ?_ (hx.tru.bind fun b b'=>?_)
    · rw [Ba,Ba]
      congr 1;funext x1
      rw [Ba]
      congr 1;funext t
      cases t <;> rfl
    · intro H ρ s R p
      have e:b'=b:=p.2
      subst e
      cases b' with
      | false=>exact hy.2 H ρ s R p.1
      | true=>exact zH ⟨ρ,Full.refl _ _,R,rfl⟩
theorem Ef {r:Expr} (h:Ed r=true) (op:CmpOp):behindInMarks op r=false:=by
  cases r <;> first | rfl | exact Am h
theorem Su (hu:A.units+100 < cLine) {op:COp} {a b:ME} {l r:Expr} {pos:Pos} (hn:Ed r=true) (x:EOk cx A P Φ env Γ a l) (y:EOk cx A P Φ env Γ b r):EOk cx A P Φ env Γ (.cmp op a b) (.Compare l [Iz op] [r] pos):=by
  have V:∀ (x1 y1:Val) (v w:Value),Sim cx A ((P.and (Amb.vr cx x1 v)).and (Amb.vr cx y1 w)) (operate [v,w] (compareOp (Iz op) v w)) ((M.look (Dl op x1 y1)).bnd fun r=>M.ret (Val.bool r)) (Amb.vr cx) :=
    fun x1 y1 v w=>Sim.oper (K6 hu (fun _ _ p=>p.1.2) fun _ _ p=>p.2)
  refine ⟨?_,?_⟩
  · rw [eval_Compare1,markedBehindIn_of_false (Ef hn _)]
    exact x.val.bind fun x1 v=>(Sim.holding y.val.and1).bind fun y1 w=>Sim.stand (V x1 y1 v w)
  · rw [isTrue_Compare1,markedBehindIn_of_false (Ef hn _),Ac8]
    rw [Ba]
    refine x.val.bind fun x1 v=>?_
    rw [Ba]
    exact (Sim.holding y.val.and1).bind fun y1 w=>Sim.stand ((V x1 y1 v w).bind fun r c=>Sim.holding Gx)
theorem Wh (hu:A.units+100 < cLine) {op1 op2:COp} {a b c:ME} {l m r:Expr} {pos:Pos} (hn:Ed r=true) (x:EOk cx A P Φ env Γ a l) (y:EOk cx A P Φ env Γ b m) (z:EOk cx A P Φ env Γ c r):EOk cx A P Φ env Γ (.cmp2 op1 op2 a b c) (.Compare l [Iz op1,Iz op2] [m,r] pos):=by
  have V1:∀ (x1 y1:Val) (v w:Value),Sim cx A ((P.and (Amb.vr cx x1 v)).and (Amb.vr cx y1 w)) (holding [v,w] (compareOp (Iz op1) v w)) ((M.look (Dl op1 x1 y1)).bnd fun r=>M.ret (Val.bool r)) (Amb.vr cx) :=
    fun x1 y1 v w=>Sim.holding (K6 hu (fun _ _ p=>p.1.2) fun _ _ p=>p.2)
  have e0:∀ (x1 y1:Val) (k:Bool -> M Val),((M.look (Dl op1 x1 y1)).bnd k)=(((M.look (Dl op1 x1 y1)).bnd fun r=>M.ret (Val.bool r)).bnd fun v=>(C1 v).bnd k):=fun x1 y1 k=>by
    rw [Ba];rfl
  refine ⟨?_,?_⟩
  · rw [arm_eval_Compare,Rk]
    have em:markedEach [Iz op1,Iz op2] [m,r] (evalEach [m,r] env)=[eval m env,eval r env]:=by
      show [eval m env,markedBehindIn (Iz op2) r (eval r env)]=_
      rw [markedBehindIn_of_false (Ef hn _)]
    rw [em]
    refine x.val.bind (f:=fun left=>do
      let rv <- holding [left] (eval m env)
      standAt pos
      let c <- holding [left,rv] (compareOp (Iz op1) left rv)
      release [left,rv] [c]
      if <- holding [c,rv] (truthy c) then compareChain pos rv [Iz op2] [eval r env] else pure c) fun x1 v=>?_
    refine (Sim.holding y.val.and1).bind fun y1 w=>Sim.stand ?_
    rw [e0]
    refine (V1 x1 y1 v w).bind fun r1 c1=>Sim.relse ?_
    refine (Sim.holding E6).bind fun t t'=>?_
    intro H ρ s R p
    obtain ⟨e1,e2⟩:t'=t /\ c1=.bool t:=p.2
    subst e1 e2
    cases t' with
    | false=>exact zH ⟨ρ,Full.refl _ _,R,.bool _⟩
    | true =>
      have W:Sim cx A (P.and (Amb.vr cx y1 w)) (compareChain pos w [Iz op2] [eval r env]) ((Ak cx.T Φ c Γ).bnd fun z=>(M.look (Dl op2 y1 z)).bnd fun r=>M.ret (Val.bool r)) (Amb.vr cx) :=
        (Sim.holding z.val.and1).bind fun z1 u=>Sim.stand (Sim.oper (K6 hu (fun _ _ p=>p.1.2) fun _ _ p=>p.2))
      exact W H ρ s R ⟨p.1.1.1.1,p.1.1.2⟩
  · rw [arm_isTrue_Compare,Rk]
    have em:markedEach [Iz op1,Iz op2] [m,r] (evalEach [m,r] env)=[eval m env,eval r env]:=by
      show [eval m env,markedBehindIn (Iz op2) r (eval r env)]=_
      rw [markedBehindIn_of_false (Ef hn _)]
    rw [em,Ba]
    refine x.val.bind (f:=fun left=>do
      let rv <- holding [left] (eval m env)
      standAt pos
      let c <- holding [left,rv] (compareOp (Iz op1) left rv)
      release [left,rv] [c]
      if <- holding [c,rv] (truthy c) then testChain pos rv [Iz op2] [eval r env] else pure false) fun x1 v=>?_
    rw [Ba]
    refine (Sim.holding y.val.and1).bind fun y1 w=>Sim.stand ?_
    rw [e0,Ba]
    refine (V1 x1 y1 v w).bind fun r1 c1=>Sim.relse ?_
    rw [Ba]
    refine (Sim.holding E6).bind fun t t'=>?_
    intro H ρ s R p
    obtain ⟨e1,e2⟩:t'=t /\ c1=.bool t:=p.2
    subst e1 e2
    cases t' with
    | false=>exact zH ⟨ρ,Full.refl _ _,R,rfl⟩
    | true =>
      have W:Sim cx A (P.and (Amb.vr cx y1 w)) (testChain pos w [Iz op2] [eval r env]) (((Ak cx.T Φ c Γ).bnd fun z=>(M.look (Dl op2 y1 z)).bnd fun r=>M.ret (Val.bool r)).bnd C1) BV:=by
        rw [Ba]
        have V2:∀ (z1:Val) (u:Value),Sim cx A ((P.and (Amb.vr cx y1 w)).and (Amb.vr cx z1 u)) (operate [w,u] (compareOp (Iz op2) w u)) ((M.look (Dl op2 y1 z1)).bnd fun r=>M.ret (Val.bool r)) (Amb.vr cx) :=
          fun z1 u=>Sim.oper (K6 hu (fun _ _ p=>p.1.2) fun _ _ p=>p.2)
        exact (Sim.holding z.val.and1).bind fun z1 u=>Sim.stand ((V2 z1 u).bind fun _ _=>Sim.holding Gx)
      exact W H ρ s R ⟨p.1.1.1.1,p.1.1.2⟩
end
theorem Fs {α:Type} {f:Hp -> Option α} {H:Hp} {a:α} (h:f H=some a):M.look f H=.ok a H:=by unfold M.look;rw [h]
theorem Ft {α:Type} {f:Hp -> Option α} {H:Hp} (h:f H=none):M.look f H=.bad:=by unfold M.look;rw [h]
theorem Aav (f:BF) (h:f≠.sortedSet):((Gq f).1,K7 f)∈Gp:=by
  unfold Gp
  cases f <;> first
    | exact absurd rfl h
    | repeat (first | exact List.Mem.head _ | apply List.Mem.tail)
theorem Ad2 (t:Ty) (h:∀ c,t≠.cls c):(Mf t,Vy t)∈Gp:=by
  unfold Gp
  cases t <;> first
    | exact absurd rfl (h _)
    | repeat (first | exact List.Mem.head _ | apply List.Mem.tail)
theorem Sv:(("isinstance":Str),Value.builtin "isinstance")∈Gp:=by
  unfold Gp
  repeat (first | exact List.Mem.head _ | apply List.Mem.tail)
section
variable {cx:Cx} {N:Names} {A:Around} {P:Amb} {env:Env} {sc:Scope} {ns:List (Option Str)} {Γ:Env'} {Φ:Funs} {l:List Env}
theorem Ao8 {α:Type} {xs:List α} (h:xs.length=2):∃ a b,xs=[a,b]:=by
  match xs,h with
  | [a,b],_=>exact ⟨a,b,rfl⟩
theorem Qg (hh:A.handled=none) (hu:A.units+100 < cLine) (f:BF) (hf:f≠.sortedSet) {ms:List Val} {vs:List Value} (hl:ms.length=(Gq f).2):Sim cx A (Amb.vrs cx ms vs) (call (K7 f) vs) (bfV f ms) (Amb.vr cx):=by
  have one:∀ {t:Sem Value} {m:Val -> M Val},ms.length=1 -> (∀ (a:Val) (v:Value),ms=[a] -> vs=[v] -> Sim cx A (Amb.vr cx a v) t (bfV f ms) (Amb.vr cx)) -> Sim cx A (Amb.vrs cx ms vs) t (bfV f ms) (Amb.vr cx):=by
    intro t m h1 k H ρ s R p
    have p':VRs cx ρ s.heap ms vs:=p
    have hv:=p'.length
    obtain ⟨a,rfl⟩:=List.length_eq_one_iff.mp h1
    refine ex1 p'.one_inv fun v zz=>Ac zz fun zr1 x=>?_;subst zr1
    exact k a v rfl rfl H ρ s R x
  have two:∀ {t:Sem Value} {m:Val -> M Val},ms.length=2 -> (∀ (a b:Val) (v w:Value),ms=[a,b] -> vs=[v,w] -> Sim cx A ((Amb.vr cx a v).and (Amb.vr cx b w)) t (bfV f ms) (Amb.vr cx)) -> Sim cx A (Amb.vrs cx ms vs) t (bfV f ms) (Amb.vr cx):=by
    intro t m h1 k H ρ s R p
    have p':VRs cx ρ s.heap ms vs:=p
    have hv:=p'.length
    refine ex2 (Ao8 h1) fun a b zr2=>?_;subst zr2
    refine ex2 p'.two_inv fun v w zz=>An zz fun zr2 x y=>?_;subst zr2
    exact k a b v w rfl rfl H ρ s R ⟨x,y⟩
  cases f with
  | len=>exact one (m:=fun _=>.bad) hl fun a v e1 e2=>by subst e1 e2;exact Z4 fun _ _ p=>p
  | range=>exact one (m:=fun _=>.bad) hl fun a v e1 e2=>by subst e1 e2;exact R7 fun _ _ p=>p
  | list=>exact one (m:=fun _=>.bad) hl fun a v e1 e2=>by subst e1 e2;exact Qb hh fun _ _ p=>p
  | sorted=>exact one (m:=fun _=>.bad) hl fun a v e1 e2=>by subst e1 e2;exact Qf hh hu fun _ _ p=>p
  | max2=>exact two (m:=fun _=>.bad) hl fun a b v w e1 e2=>by subst e1 e2;exact V0 hh (fun _ _ p=>p.1) fun _ _ p=>p.2
  | sortedSet=>exact absurd rfl hf
theorem Ad3 (B:Base cx N) (hh:A.handled=none) (hu:A.units+100 < cLine) {f:BF} {x:Str} {xs:List Expr} {es:MEs} {np pos:Pos} (hg:Bs sc x=true) (hx:(Gq f).1=x) (hl:(Gq f).2=xs.length) (hes:ckEs N sc ns es xs=true)
    (y:Sim cx A ((Amb.env cx env sc ns Γ).and (Amb.frames cx l)) (spliced (xs.map fun e=>(false,eval e env))) (evalEs cx.T Φ es Γ) (Amb.vrs cx)) :
    EOk cx A ((Amb.env cx env sc ns Γ).and (Amb.frames cx l)) Φ env Γ (.bf f es) (.Call (.Name x np) xs [] pos):=by
  refine EOk.of ?_ rfl
  refine ex2 B.ns fun mg mb zz=>Lz zz fun ng nb _ _ _ q=>?_
  intro H ρ s R p
  by_cases hf:f=.sortedSet
  · subst hf
    first | rw [Je] | rw [Mb] | rw [Hc] | rw [Rl] | rw [Fq] | rw [Rm]
    show Bf cx A (M.bnd _ (fun vs=>bfV .sortedSet vs) H) _ _ ρ s
    have hx':xs=[]:=List.eq_nil_of_length_eq_zero hl.symm
    subst hx'
    obtain hr0:=E5 hes;refine Eq.symm hr0▸?_
    trivial
  · have q12:mg (Gq f).1=none /\ mb (Gq f).1=some (K7 f):=q _ (Aav f hf)
    obtain ⟨q1,q2⟩:=q12
    rw [hx] at q1 q2
    first | rw [Je] | rw [Mb] | rw [Hc] | rw [Rl] | rw [Fq] | rw [Rm]
    refine Gm.mono (Fr (f:=K7 f) (K:=fun vs Q E s=>wpAny (model cx.prog cx.w) A (call (K7 f) vs) Q E s) (fun e=>E5 (e▸hes)) R (y H ρ s R p) ?_ fun _=>I3 _) ?_
    · intro ms vs H1 ρ1 s1 e1 F1 R1 vrs
      exact Qg hh hu f hf (by rw [Ch hes e1,hl]) H1 ρ1 s1 R1 vrs
    · intro Q E h
      refine wpAny_Call_ofName (wp_glob R p.1.st hg ng nb (v:=K7 f) (.inr ⟨q1,q2⟩) ?_)
      rw [Ap pos (Cb hes)]
      have hq:(∃ id,K7 f=.builtin id) \/ ∃ T,K7 f=.type T:=by
        cases f <;> first | exact absurd rfl hf | exact .inl ⟨_,rfl⟩ | exact .inr ⟨_,rfl⟩
      generalize K7 f=bv at h hq ⊢
      rcases hq with ⟨id,rfl⟩ | ⟨T,rfl⟩
      · exact Calls.callWith_builtin (Di _) (zE h (fun a s₁ h₁=>by rw [h₁.1];exact h₁.2) fun _ _ q=>q)
      · exact PyProof.Rows.callWith_type (Di _) (zE h (fun a s₁ h₁=>by rw [h₁.1];exact h₁.2) fun _ _ q=>q)
theorem Em (B:Base cx N) {t:Ty} (ht:∀ c,t≠.cls c) {a:ME} {f y:Str} {x:Expr} {fp yp pos:Pos} (hg:Bs sc f=true) (hf:f=("isinstance":Str)) (hy:Bs sc y=true) (hty:Mf t=y) (hp:Hx x=true)
    (z:EOk cx A ((Amb.env cx env sc ns Γ).and (Amb.frames cx l)) Φ env Γ a x) :
    EOk cx A ((Amb.env cx env sc ns Γ).and (Amb.frames cx l)) Φ env Γ (.isinst a t) (.Call (.Name f fp) [x,.Name y yp] [] pos):=by
  refine EOk.of ?_ rfl
  refine ex2 B.ns fun mg mb zz=>Lz zz fun ng nb _ _ _ q=>?_
  intro H ρ s R p
  have q12:mg ("isinstance":Str)=none /\ mb ("isinstance":Str)=some (.builtin "isinstance"):=q _ Sv
  have q34:mg (Mf t)=none /\ mb (Mf t)=some (Vy t):=q _ (Ad2 t ht)
  obtain ⟨q1,q2⟩:=q12
  obtain ⟨q3,q4⟩:=q34
  rw [<- hf] at q1 q2
  rw [hty] at q3 q4
  first | rw [Je] | rw [Mb] | rw [Hc] | rw [Rl] | rw [Fq] | rw [Rm]
  refine Bf.bindK (K':=fun Q E s=>wpAny (model cx.prog cx.w) A (eval (.Call (.Name f fp) [x,.Name y yp] [] pos) env) Q E s) (K:=fun v Q E s=>wpAny (model cx.prog cx.w) A (eval (.Name y yp) env) (fun w s'=>wpAny (model cx.prog cx.w) A (call (.builtin "isinstance") [v,w]) Q E s') E s) (z.val H ρ s R p) ?_ ?_ ?_
  · intro b v H1 ρ1 s1 _ F1 R1 vr
    have e1:=(p.1.full F1).st
    have ht2:(A6 cx.T b t)=M.look (fun H=>(Ot H b).map fun k=>Val.bool (Yc t k)):=by
      cases t <;> first | rfl | exact absurd rfl (ht _)
    show Gm cx (A6 cx.T b t H1) _ _ ρ1 s1
    rw [ht2]
    cases ek:Ot H1 b with
    | none =>
      have:M.look (fun H=>(Ot H b).map fun k=>Val.bool (Yc t k)) H1=.bad:=Ft (by show Option.map _ (Ot H1 b)=none;rw [ek];rfl)
      rw [this];trivial
    | some k =>
      have:M.look (fun H=>(Ot H b).map fun k=>Val.bool (Yc t k)) H1=.ok (Val.bool (Yc t k)) H1:=Fs (by show Option.map _ (Ot H1 b)=_;rw [ek];rfl)
      rw [this]
      refine wp_glob R1 e1 hy ng nb (v:=Vy t) (.inr ⟨q3,q4⟩) ?_
      exact Adr R1 vr ek ht fun tk=>⟨ρ1,Full.refl _ _,R1.toks tk,.bool _⟩
  · exact fun v Q E Q' E' s h k1 k2=>zE h (fun _ _ h'=>zE h' k1 k2) k2
  · intro Q E h
    refine wpAny_Call_ofName (wp_glob R p.1.st hg ng nb (v:=.builtin "isinstance") (.inr ⟨q1,q2⟩) ?_)
    have pl:B7 env [x,.Name y yp]:=⟨Br hp,Br rfl,trivial⟩
    rw [Ap pos pl]
    refine Calls.callWith_builtin (Di _) (Calls.evalArgs_plain (Calls.spliced_cons (zE h (fun v s' h'=>?_) fun _ _ q=>q)))
    exact Calls.spliced_cons (zE h' (fun w s'' h''=>Calls.spliced_nil h'') fun _ _ q=>q)
theorem Aaw (hu:A.units+100 < cLine) {a i:ME} {v s:Expr} {pos:Pos} (x:EOk cx A P Φ env Γ a v) (y:EOk cx A P Φ env Γ i s):EOk cx A P Φ env Γ (.sub a i) (.Subscript v s pos):=by
  refine EOk.of ?_ rfl
  intro H ρ st R p
  refine Bf.bindK (K':=fun Q E s'=>wpAny (model cx.prog cx.w) A (eval (.Subscript v s pos) env) Q E s') (K:=fun o Q E s'=>wpAny (model cx.prog cx.w) A (eval s env) (fun i s''=>wpAny (model cx.prog cx.w) A (PyProof.Rows.subscriptTail v s o i) Q E s'') E s') (x.val H ρ st R p) ?_ ?_ ?_
  · intro b o H1 ρ1 s1 _ F1 R1 vr
    refine Bf.bindK (K':=fun Q E s'=>wpAny (model cx.prog cx.w) A (eval s env) (fun i s''=>wpAny (model cx.prog cx.w) A (PyProof.Rows.subscriptTail v s o i) Q E s'') E s') (K:=fun i Q E s'=>wpAny (model cx.prog cx.w) A (PyProof.Rows.subscriptTail v s o i) Q E s') (y.val H1 ρ1 s1 R1 (P.st _ _ _ _ p F1)) ?_ (fun _=>I3 _) fun Q E h=>h
    intro b2 i2 H2 ρ2 s2 _ F2 R2 vr2
    exact Nr (P:=(Amb.vr cx b o).and (Amb.vr cx b2 i2)) hu (fun _ _ p=>p.1) (fun _ _ p=>p.2) H2 ρ2 s2 R2 ⟨vr.step F2.step,vr2⟩
  · exact fun v Q E Q' E' s h k1 k2=>zE h (fun _ _ h'=>zE h' k1 k2) k2
  · exact fun Q E h=>PyProof.Rows.Subscript_ h
end
section
variable {cx:Cx} {N:Names} {A:Around} {Φ:Funs} {l:List Env} {env:Env} {sc:Scope} {ns:List (Option Str)} {Γ:Env'} {H:Hp} {ρ:Rho} {s:Shared}
theorem Aax (B:Base cx N) (R:Rel cx H ρ s) {c dc:Nat} {v D:Value} (vr:VR cx ρ s.heap (.exc c) v) (hi:cx.T.isExc c=true) (hD:cx.cls[dc]?=some D) {Q:Value -> Shared -> Prop} {E:Value -> Shared -> Prop} (q:∀ tk,Q (.bool (cx.T.sub c dc)) { s with toks:=tk }) :
    wpAny (model cx.prog cx.w) A (call (.builtin "isinstance") [v,D]) Q E s:=by
  refine ex1 (B.exc c hi) fun C zz=>Ac zz fun hC ok=>?_
  refine ex1 ok.isi fun K zz=>An zz fun X k m=>?_
  obtain ⟨m1,m2⟩:=m dc D hD
  cases vr with
  | @exc a o _ C' g no hC' x =>
    rw [hC] at hC';cases hC'
    refine An x fun x1 zn1 x3=>?_;obtain ⟨vs,x2⟩:=zn1
    have XK:K.In s.heap:=fun b ob e=>R.base b ob (X b ob e)
    refine Ru (K:=K) (D:=C) (ox:=o) k XK ⟨g,x1,by unfold PySem.W.notCls;rw [x2],by rw [x3];trivial⟩ (fun M h' X'=>(Me m1 X').1) (fun M h' X'=>(Me m1 X').2) (fun e=>?_) (fun M h' X'=>PySem.W.looks_mroIn X' m2) q
    have e':=beq_iff_eq.mp e
    subst e'
    have:=ok.is
    refine Af fun G kG=>?_
    refine Vk ok.is fun nm qn Nn bs bm hdct sn sub ab col dd k0 k1 k2 zz=>ex3 zz fun k3 k5 mN zz=>Fo zz fun hCo hNs hin tl hsub=>?_
    refine kG ?_
    rw [hsub dc _ hD,List.contains_cons,beq_self_eq_true,Bool.true_or]
theorem Pb (B:Base cx N) {dc:Nat} {a:ME} {f y:Str} {x:Expr} {fp yp pos:Pos} (hg:Bs sc f=true) (hf:f=("isinstance":Str)) (hy:Bs sc y=true) (hc:Dz N.clss y dc=true) (hp:Hx x=true)
    (z:EOk cx A ((Amb.env cx env sc ns Γ).and (Amb.frames cx l)) Φ env Γ a x) :
    EOk cx A ((Amb.env cx env sc ns Γ).and (Amb.frames cx l)) Φ env Γ (.isinst a (.cls dc)) (.Call (.Name f fp) [x,.Name y yp] [] pos):=by
  refine EOk.of ?_ rfl
  refine Af fun G kG=>?_
  refine ex2 B.ns fun mg mb zz=>Lz zz fun ng nb _ _ qc q=>?_
  refine kG ?_
  intro H ρ s R p
  have q12:mg ("isinstance":Str)=none /\ mb ("isinstance":Str)=some (.builtin "isinstance"):=q _ Sv
  obtain ⟨q1,q2⟩:=q12
  rw [<- hf] at q1 q2
  refine ex1 (qc y dc (Co hc)) fun D zz=>Ac zz fun hD hx=>?_
  refine Bf.bindK (K':=fun Q E s=>wpAny (model cx.prog cx.w) A (eval (.Call (.Name f fp) [x,.Name y yp] [] pos) env) Q E s) (K:=fun v Q E s=>wpAny (model cx.prog cx.w) A (eval (.Name y yp) env) (fun w s'=>wpAny (model cx.prog cx.w) A (call (.builtin "isinstance") [v,w]) Q E s') E s) (z.val H ρ s R p) ?_ ?_ ?_
  · intro b v H1 ρ1 s1 _ F1 R1 vr
    have e1:=(p.1.full F1).st
    cases b with
    | exc c =>
      by_cases hi:cx.T.isExc c=true
      · have:A6 cx.T (.exc c) (.cls dc) H1=.ok (.bool (cx.T.sub c dc)) H1:=Fs (by show (if cx.T.isExc c=true then some (Val.bool (cx.T.sub c dc)) else none)=_;rw [if_pos hi])
        rw [this]
        refine wp_glob R1 e1 hy ng nb hx ?_
        exact Aax B R1 vr hi hD fun tk=>⟨ρ1,Full.refl _ _,R1.toks tk,.bool _⟩
      · have:A6 cx.T (.exc c) (.cls dc) H1=.bad:=Ft (by show (if cx.T.isExc c=true then some (Val.bool (cx.T.sub c dc)) else none)=_;rw [if_neg hi])
        rw [this];trivial
    | _=>trivial
  · exact fun v Q E Q' E' s h k1 k2=>zE h (fun _ _ h'=>zE h' k1 k2) k2
  · intro Q E h
    refine wpAny_Call_ofName (wp_glob R p.1.st hg ng nb (v:=.builtin "isinstance") (.inr ⟨q1,q2⟩) ?_)
    have pl:B7 env [x,.Name y yp]:=⟨Br hp,Br rfl,trivial⟩
    rw [Ap pos pl]
    refine Calls.callWith_builtin (Di _) (Calls.evalArgs_plain (Calls.spliced_cons (zE h (fun v s' h'=>?_) fun _ _ q=>q)))
    exact Calls.spliced_cons (zE h' (fun w s'' h''=>Calls.spliced_nil h'') fun _ _ q=>q)
end
noncomputable def Fn (env:Env):List (Str × NameKind) -> List (Str × Addr) -> List (Str × Addr)
  | [],acc=>acc
  | (n,k) :: r,acc=>if k == .free then Fn env r ((n,(env.cells.lookup n).getD 0) :: acc) else Fn env r acc
theorem Hi {scope:Scope} {env:Env} (h:∀ p∈scope.names,p.2=.free -> ∃ c,env.cells.lookup p.1=some c):closureFor scope env=pure (Fn env scope.names []):=by
  have gen:∀ (names:List (Str × NameKind)) (acc:List (Str × Addr)),(∀ p∈names,p.2=.free -> ∃ c,env.cells.lookup p.1=some c) ->
      (forIn names acc fun x cs=>if (x.2 == .free)=true then (do let c <- cellOf env x.1;pure (ForInStep.yield ((x.1,c) :: cs))) else pure (ForInStep.yield cs):Sem _)=pure (Fn env names acc):=by
    intro names
    induction names with
    | nil=>intro acc _;rfl
    | cons p r ih =>
      intro acc hp
      obtain ⟨n,k⟩:=p
      rw [List.forIn_cons]
      unfold Fn
      by_cases q:(k == .free)=true
      · obtain ⟨c,hc⟩:=hp (n,k) (.head _) (by simpa using q)
        have hc':env.cells.lookup n=some c:=hc
        have e:cellOf env n=pure c:=by unfold cellOf;rw [hc']
        simp only [q,if_true,e,pure_bind,hc',Option.getD_some]
        exact ih _ fun p hp'=>hp p (.tail _ hp')
      · simp only [q,if_false,pure_bind]
        exact ih _ fun p hp'=>hp p (.tail _ hp')
  unfold closureFor
  have:=gen scope.names [] h
  simp only [bind_pure] at this ⊢
  rw [<- this]
set_option tactic.hygienic true in
theorem N0 {env:Env}:∀ {names:List (Str × NameKind)} {acc:List (Str × Addr)} {y:Str} {c:Addr},(∀ z d,acc.lookup z=some d -> d=(env.cells.lookup z).getD 0) -> (Fn env names acc).lookup y=some c -> c=(env.cells.lookup y).getD 0
  | [],acc,y,c,ha,h=>ha y c h
  | (n,k) :: r,acc,y,c,ha,h=>by
    unfold Fn at h
    split at h
    · refine N0 (fun z d hd=>?_) h
      rw [List.lookup_cons] at hd
      split at hd
      · rename_i e
        have:z=n:=by simpa using e
        refine Eq.symm this▸?_
        cases hd;rfl
      · exact ha z d hd
    · exact N0 ha h
set_option tactic.hygienic true in
theorem N1 {env:Env}:∀ {names:List (Str × NameKind)} {acc:List (Str × Addr)} {y:Str},((y,NameKind.free)∈names \/ (acc.lookup y).isSome=true) -> ((Fn env names acc).lookup y).isSome=true
  | [],_,_,h=>by
    rcases h with h | h
    · cases h
    · exact h
  | (n,k) :: r,acc,y,h=>by
    unfold Fn
    split
    · rename_i hk
      refine N1 ?_
      rcases h with h | h
      · rcases List.mem_cons.mp h with e | h
        · cases e;right;simp
        · exact .inl h
      · right
        rw [List.lookup_cons]
        split
        · rfl
        · exact h
    · rename_i hk
      refine N1 ?_
      rcases h with h | h
      · rcases List.mem_cons.mp h with e | h
        · cases e;simp at hk
        · exact .inl h
      · exact .inr h
set_option tactic.hygienic true in
theorem N2 {env:Env}:∀ {names:List (Str × NameKind)} {acc:List (Str × Addr)} {y:Str} {c:Addr},(Fn env names acc).lookup y=some c -> (y,NameKind.free)∈names \/ (acc.lookup y).isSome=true
  | [],_,_,_,h=>by right;have h':List.lookup _ _=_:=h;unfold Fn at h';rw [h'];rfl
  | (n,k) :: r,acc,y,c,h=>by
    unfold Fn at h
    split at h
    · rename_i hk
      rcases N2 h with h | h
      · exact .inl (.tail _ h)
      · rw [List.lookup_cons] at h
        split at h
        · rename_i e
          have:y=n:=by simpa using e
          refine this▸?_
          have:k=.free:=by simpa using hk
          subst this
          exact .inl (.head _)
        · exact .inr h
    · rcases N2 h with h | h
      · exact .inl (.tail _ h)
      · exact .inr h
theorem Cp:∀ (names:List (Str × NameKind)) (n:Nat) (acc:List (Str × Addr)),cellsFrom n names acc=cellsFrom n names []++acc
  | [],_,_=>rfl
  | (y,k) :: r,n,acc=>by
    unfold cellsFrom
    split
    · rw [Cp r (n+1) ((y,n) :: acc),Cp r (n+1) [(y,n)],List.append_assoc];rfl
    · exact Cp r n acc
set_option tactic.hygienic true in
theorem D1:∀ {names:List (Str × NameKind)} {n:Nat} {acc:List (Str × Addr)} {y:Str} {c:Addr},(y,c)∈cellsFrom n names acc -> (y,NameKind.cell)∈names \/ (y,c)∈acc
  | [],_,_,_,_,h=>.inr h
  | (z,k) :: r,n,acc,y,c,h=>by
    unfold cellsFrom at h
    split at h
    · rename_i hk
      rcases D1 h with h | h
      · exact .inl (.tail _ h)
      · rcases List.mem_cons.mp h with e | h
        · cases e
          have:k=.cell:=by simpa using hk
          refine this▸?_
          exact .inl (.head _)
        · exact .inr h
    · rcases D1 h with h | h
      · exact .inl (.tail _ h)
      · exact .inr h
theorem Gr {env:Env}:∀ (names:List (Str × NameKind)) (y:Str),(names.map fun (n,k)=>if (k == NameKind.free && env.scope.kind == .function && env.kindOf n == some .cell) then (n,NameKind.cell) else (n,k)).lookup y =
    (names.lookup y).map fun k=>if (k == NameKind.free && env.scope.kind == .function && env.kindOf y == some .cell)=true then NameKind.cell else k
  | [],_=>rfl
  | (n,k) :: r,y=>by
    have ih:=@Gr env r y
    show List.lookup y ((if (k == NameKind.free && env.scope.kind == .function && env.kindOf n == some .cell)=true then (n,NameKind.cell) else (n,k)) :: _)=_
    cases hx:y == n with
    | true =>
      have:y=n:=by simpa using hx
      refine this▸?_
      by_cases hc:(k == NameKind.free && env.scope.kind == .function && env.kindOf y == some .cell)=true
      · rw [if_pos hc]
        simp only [List.lookup_cons,beq_self_eq_true,Option.map_some]
        rw [if_pos hc]
      · rw [if_neg hc]
        simp only [List.lookup_cons,beq_self_eq_true,Option.map_some]
        rw [if_neg hc]
    | false =>
      by_cases hc:(k == NameKind.free && env.scope.kind == .function && env.kindOf n == some .cell)=true
      · rw [if_pos hc];simp only [List.lookup_cons,hx];exact ih
      · rw [if_neg hc];simp only [List.lookup_cons,hx];exact ih
noncomputable def E7 (csc:Scope) (env:Env) (L:Addr):Env :=
  { scope:=relabel csc env,locals:=L,globals:=env.globals,cells:=cellsFrom (L+1) csc.names (Fn env csc.names []),qual:=env.qual,func:=none,code:=env.code,frame:=env.frame,builtins:=env.builtins }
noncomputable def Cq (csc:Scope) (h:Heap):Heap:=pushCells (h.push { cls:=.type "dict",data:=.dict #[] }) csc.names
theorem I0 {M:Model} {A:Around} {E:Value -> Shared -> Prop} {s:Shared} {env:Env} {csc:Scope} {Q:Env -> Shared -> Prop} (cl:List (Str × Addr))
    (h:Q (newEnv csc s.heap.objs.size env.globals (cellsFrom (s.heap.objs.size+1) csc.names cl) env.qual none .none (some env) builtinsNs) { s with heap:=Cq csc s.heap }) :
    wpAny M A (newFunctionEnv csc env.globals cl [] env.qual none .none (some env)) Q E s:=by
  simp only [newFunctionEnv,Option.isSome_some,if_true]
  refine zB (wpAny_alloc ?_)
  refine zB (wpAny_layCells _ (fun name kind cells=>by cases hkc:kind == NameKind.cell <;> simp [hkc]) _ _ _ _ ?_)
  rw [show ({ s with heap:=s.heap.push { cls:=.type "dict",data:=.dict #[] } }:Shared).heap.objs.size=s.heap.objs.size+1 from Heap.size_push ..]
  exact zB (zH (zH h))
section
variable {cx:Cx} {N:Names} {A:Around} {env:Env} {sc csc:Scope} {ns:List (Option Str)} {Γ:Env'} {H:Hp} {ρ:Rho} {s:Shared} {x:Str}
theorem By (h:Ji sc csc x=true):csc.kind=.function /\ (csc.names.lookup x=some .local \/ csc.names.lookup x=some .cell) /\
    (∀ p∈csc.names,csc.names.lookup p.1=some p.2 /\ (p.2=.free -> sc.names.lookup p.1=some .cell \/ sc.names.lookup p.1=some .free)) :=
  ⟨of_decide_eq_true (an1 h),Rv (an1 (an2 h)),fun p hp=>have q:=List.all_eq_true.mp (an2 (an2 h)) p hp
    ⟨of_decide_eq_true (an1 q),fun w=>((Bool.or_eq_true _ _).mp (an2 q)).elim (fun z=>absurd w (of_decide_eq_false (not_not z))) Rv⟩⟩
theorem Pc {ns:List (Option Str)} {i:Nat} {y:Str} (h:(D0 csc ns)[i]?=some (some y)):ns[i]?=some (some y) /\ csc.names.lookup y=some .free:=by
  refine ex1 (Option.map_eq_some_iff.mp (List.getElem?_map.symm.trans h)) fun o zz=>Ac zz fun e h=>?_
  refine ex1 (Option.bind_eq_some_iff.mp h) fun z zz=>Ac zz fun e2 h=>?_
  obtain ⟨q,h⟩:=Kz h
  exact h▸⟨e.trans (congrArg some e2),q⟩
theorem Ci (csc:Scope) (h:Heap):∀ b o,h.get? b=some o -> (Cq csc h).get? b=some o:=fun b o e=>pushCells_keeps _ _ b o (Heap.get?_push_of_some _ e)
theorem Wi (R:Rel cx H ρ s) (e0:EnvOk cx env sc ns Γ ρ s.heap) (hc:Ji sc csc x=true) (hΓ:Γ.length=ns.length) :
    EnvOk cx (E7 csc env s.heap.objs.size) csc (D0 csc ns++[some x]) (Γ++[none]) ρ (Cq csc s.heap) /\
    (∀ q,csc.names.lookup x=some .cell -> (E7 csc env s.heap.objs.size).cells.lookup x=some q -> s.heap.get? q=none):=by
  refine An (By hc) fun c1 c2 c3=>?_
  have F:Full ρ s.heap ρ (Cq csc s.heap):=Full.more (Ci csc s.heap)
  have lvB:E1 cx.h₀ s.heap:=fun b o e=>⟨o,R.base b o e⟩
  have ok:=cellsFrom_ok csc.names (s.heap.push { cls:=.type "dict",data:=.dict #[] }) (s.heap.objs.size+1) [] ⟨fun _ _ hm=>(nomatch hm),List.Pairwise.nil⟩ (by rw [Heap.size_push];exact zI _)
  rw [Heap.size_push] at ok
  have hcells:(E7 csc env s.heap.objs.size).cells=cellsFrom (s.heap.objs.size+1) csc.names []++Fn env csc.names []:=Cp _ _ _
  have hlook:∀ y c,(E7 csc env s.heap.objs.size).cells.lookup y=some c ->
      ((cellsFrom (s.heap.objs.size+1) csc.names []).lookup y=some c /\ (Cq csc s.heap).IsCell c none /\ s.heap.get? c=none /\ csc.names.lookup y=some .cell) \/
      (env.cells.lookup y=some c /\ csc.names.lookup y=some .free):=by
    intro y c h
    rw [hcells,List.lookup_append] at h
    cases q:(cellsFrom (s.heap.objs.size+1) csc.names []).lookup y with
    | some d =>
      rw [q] at h
      cases h
      have m:=ok.empty y c (mem_of_lookup q)
      refine .inl ⟨rfl,m.1,Ge (Nat.le_of_succ_le m.2),?_⟩
      rcases D1 (mem_of_lookup q) with w | w
      · exact (c3 _ w).1
      · exact nomatch w
    | none =>
      rw [q] at h
      have h':(Fn env csc.names []).lookup y=some c:=h
      have m:=N2 h'
      have mf:(y,NameKind.free)∈csc.names:=by
        rcases m with m | m
        · exact m
        · exact Am m
      obtain ⟨l1,l2⟩:=c3 _ mf
      obtain ⟨d,hd⟩:=e0.st.hasCell y (l2 rfl)
      have v:=N0 (acc:=[]) (fun z d h=>by simp at h) h'
      rw [hd] at v
      exact .inr ⟨by rw [hd,v];rfl,l1⟩
  have hfree:∀ y,csc.names.lookup y=some .free -> ∃ c,(E7 csc env s.heap.objs.size).cells.lookup y=some c /\ env.cells.lookup y=some c:=by
    intro y hy
    have:=N1 (env:=env) (acc:=[]) (.inl (mem_of_lookup hy))
    obtain ⟨c,h⟩:=Option.isSome_iff_exists.mp this
    have hn:(cellsFrom (s.heap.objs.size+1) csc.names []).lookup y=none:=by
      cases q:(cellsFrom (s.heap.objs.size+1) csc.names []).lookup y with
      | none=>rfl
      | some d =>
        rcases D1 (mem_of_lookup q) with w | w
        · have:=(c3 _ w).1;rw [hy] at this;cases this
        · exact nomatch w
    have hl:(E7 csc env s.heap.objs.size).cells.lookup y=some c:=by rw [hcells,List.lookup_append,hn];exact h
    refine ⟨c,hl,?_⟩
    rcases hlook y c hl with ⟨_,_,_,w⟩ | ⟨w,_⟩
    · rw [hy] at w;exact nomatch w
    · exact w
  have hkind:∀ y,(E7 csc env s.heap.objs.size).kindOf y=(csc.names.lookup y).map fun k=>if (k == NameKind.free && env.scope.kind == .function && env.kindOf y == some .cell)=true then NameKind.cell else k:=fun y=>Gr csc.names y
  have locNs:(Cq csc s.heap).Ns s.heap.objs.size fun _=>none:=(Heap.Ns.new s.heap (.type "dict")).keeps (pushCells_keeps _ _)
  refine ⟨⟨⟨c1,e0.st.glob,e0.st.blt,fun y k hy=>?_,⟨_,locNs⟩,R.fresh_not (Ao _),lvB.none (Ao _),fun y c hy=>?_,fun y hy=>?_,fun y z c hy hz=>?_⟩,by unfold D0;rw [List.length_append,List.length_append,List.length_map,hΓ];rfl,fun i y mv hi hm=>?_⟩,fun q hx hq=>?_⟩
  · rw [hkind,hy]
    cases k
    case free =>
      by_cases q:(NameKind.free == NameKind.free && env.scope.kind == .function && env.kindOf y == some .cell)=true
      · exact .inr (congrArg some (if_pos q))
      · exact .inl (congrArg some (if_neg q))
    all_goals first | rfl | trivial
  · rcases hlook y c hy with ⟨_,w1,w2,_⟩ | ⟨w,_⟩
    · exact ⟨⟨_,w1⟩,R.fresh_not w2,lvB.none w2⟩
    · refine An (e0.st.cells y c w) fun zn0 n b=>?_;obtain ⟨v,hv⟩:=zn0
      exact ⟨⟨v,Bi hv (F.data n)⟩,n,b⟩
  · rcases hy with hy | hy
    · rw [hcells,List.lookup_append]
      obtain ⟨c,h⟩:=Option.isSome_iff_exists.mp (Eu (n:=s.heap.objs.size+1) (acc:=[]) (.inl (mem_of_lookup hy)))
      exact ⟨c,by rw [h];rfl⟩
    · refine ex1 (hfree y hy) fun c zz=>Ac zz fun h _=>?_
      exact ⟨c,h⟩
  · rcases hlook y c hy with ⟨w0,w1,w2,_⟩ | ⟨w,_⟩ <;> rcases hlook z c hz with ⟨u0,u1,u2,_⟩ | ⟨u,_⟩
    · exact name_of_addr ok.apart (mem_of_lookup w0) (mem_of_lookup u0)
    · obtain ⟨⟨v,o,ho,_⟩,_⟩:=e0.st.cells z c u
      rw [w2] at ho;exact Ae ho
    · obtain ⟨⟨v,o,ho,_⟩,_⟩:=e0.st.cells y c w
      rw [u2] at ho;exact Ae ho
    · exact e0.st.apart y z c w u
  · by_cases lt:i < ns.length
    · rw [List.getElem?_append_left (by unfold D0;rw [List.length_map];exact lt)] at hi
      rw [List.getElem?_append_left (by rw [hΓ];exact lt)] at hm
      obtain ⟨hn,hf⟩:=Pc hi
      · · · refine Af fun G kG=>?_
            refine ex1 (e0.vals i y mv hn hm) fun v zz=>Ac zz fun hv vr=>?_
            refine ex1 (hfree y hf) fun c zz=>Ac zz fun k1 k2=>?_
            refine kG ?_
            have ks:env.kindOf y=some .cell \/ env.kindOf y=some .free:=by
              rcases (c3 _ (mem_of_lookup hf)).2 rfl with w | w
              · exact .inl (e0.st.kinds y _ w)
              · rcases e0.st.kinds y _ w with w | w
                · exact .inr w
                · exact .inl w
            have hcell:s.heap.IsCell c (some v):=by
              rcases hv with ⟨kd,_⟩ | ⟨_,c',hc',hv⟩
              · rcases ks with w | w <;> rw [w] at kd <;> cases kd
              · rw [k2] at hc';cases hc';exact hv
            refine ⟨v,.inr ⟨?_,c,k1,hcell.keeps (Ci csc s.heap)⟩,vr.step F.step⟩
            rw [hkind,hf]
            simp only [Option.map_some]
            split
            · exact .inl rfl
            · exact .inr rfl
    · exfalso
      rw [List.getElem?_append_right (by rw [hΓ];exact Zj lt)] at hm
      cases q:i - Γ.length with
      | zero=>rw [q] at hm;simp at hm
      | succ n=>rw [q] at hm;simp at hm
  · rcases hlook x q hq with ⟨_,_,w,_⟩ | ⟨_,w⟩
    · exact w
    · rw [hx] at w;cases w
end
section
variable {cx:Cx} {N:Names} {A:Around} {env:Env} {sc:Scope} {ns:List (Option Str)} {Γ:Env'} {H:Hp} {ρ ρ':Rho} {s:Shared}
theorem Full.fresh {h h1 h2:Heap} {q:Addr} (F:Full ρ h ρ' h1) (hq:h.get? q=none) (hs:∀ b o,b≠q -> h1.get? b=some o -> h2.get? b=some o):Full ρ h ρ' h2:=by
  have ne:∀ b o,h.get? b=some o -> b≠q:=fun b o e w=>by rw [w,hq] at e;exact Ae e
  refine ⟨F.grow,fun b o e n=>?_,fun b o e=>?_⟩
  · refine ex1 (F.keep b o e n) fun o' zz=>Ac zz fun e' u=>?_
    exact ⟨o',hs b o' (ne b o e) e',u⟩
  · obtain ⟨o',e'⟩:=F.live b o e
    exact ⟨o',hs b o' (ne b o e) e'⟩
theorem Full.addOwn {h h1:Heap} {p:Addr × Addr} (F:Full ρ h ρ' h1) (hp:h.get? p.1=none /\ h.get? p.2=none):Full ρ h (ρ'++[p]) h1:=by
  refine ex1 F.grow fun e zz=>Ac zz fun hr0 he=>?_;refine Eq.symm hr0▸?_
  refine ⟨⟨e++[p],by rw [List.append_assoc],fun q hq=>?_⟩,F.keep,F.live⟩
  rcases List.mem_append.mp hq with hq | hq
  · exact he q hq
  · rw [List.mem_singleton.mp hq];exact hp
theorem EnvOk.but {h h':Heap} {q:Addr} (x:EnvOk cx env sc ns Γ ρ h) (hs:∀ b o,b≠q -> h.get? b=some o -> h'.get? b=some o) (n1:q≠env.locals) (n2:∀ y,env.cells.lookup y≠some q) (st:Step ρ h ρ h'):EnvOk cx env sc ns Γ ρ h':=by
  have kl:∀ o,h.get? env.locals=some o -> ∃ o',h'.get? env.locals=some o' /\ o'.data=o.data:=fun o e=>⟨o,hs _ o (fun w=>n1 w.symm) e,rfl⟩
  have kc:∀ y c,env.cells.lookup y=some c -> ∀ o,h.get? c=some o -> ∃ o',h'.get? c=some o' /\ o'.data=o.data:=fun y c hc o e=>⟨o,hs _ o (fun w=>n2 y (w▸hc)) e,rfl⟩
  obtain ⟨m,hm⟩:=x.st.loc
  refine ⟨⟨x.st.fn,x.st.glob,x.st.blt,x.st.kinds,⟨m,Bh hm kl⟩,x.st.locN,x.st.locB,fun y c hc=>?_,x.st.hasCell,x.st.apart⟩,x.len,fun i y mv hi hm=>?_⟩
  · refine An (x.st.cells y c hc) fun zn0 a b=>?_;obtain ⟨v,hv⟩:=zn0
    exact ⟨⟨v,Bi hv (kc y c hc)⟩,a,b⟩
  · refine ex1 (x.vals i y mv hi hm) fun v zz=>Ac zz fun hv r=>?_
    refine ⟨v,?_,r.step st⟩
    rcases hv with ⟨k,m,hm,e⟩ | ⟨k,c,hc,e⟩
    · exact .inl ⟨k,m,Bh hm kl,e⟩
    · exact .inr ⟨k,c,hc,Bi e (kc y c hc)⟩
theorem Rel.adopt (R:Rel cx H ρ s) {D:Addr} {vs:List Value} {n:Nat} {xs:List Val} (e:s.heap.get? D=some (Bq vs n)) (r:VRs cx ρ s.heap xs vs) (z:xs.length <= sizeLine) (no:¬ Av ρ D) (nb:cx.h₀.get? D=none) :
    Rel cx (H++[.list xs]) (ρ++[(D,D)]) s /\ VR cx (ρ++[(D,D)]) s.heap (.loc H.length) (.ref D):=by
  have notF:¬ Fk (Bq vs n):=Ev.1
  have notC:∀ C,¬ C7 (Bq vs n) C:=Ev.2
  have own:∀ b,¬ Av ρ b -> b≠D -> ¬ Av (ρ++[(D,D)]) b:=fun b nb ne ⟨p,hp,h⟩=>by
    rcases List.mem_append.mp hp with hp | hp
    · exact nb ⟨p,hp,h⟩
    · rw [List.mem_singleton.mp hp] at h
      rcases h with h | h <;> exact ne h
  have st:Step ρ s.heap (ρ++[(D,D)]) s.heap:=⟨⟨_,rfl⟩,fun b o eb f nb=>⟨eb,own b nb fun w=>by rw [w,e] at eb;cases eb;exact notF f⟩,fun b o C eb c nb=>⟨o,eb,c,own b nb fun w=>by rw [w,e] at eb;cases eb;exact notC C c⟩⟩
  have nD:∀ p∈ρ,p.1≠D /\ p.2≠D:=fun p hp=>⟨fun w=>no ⟨p,hp,.inl w.symm⟩,fun w=>no ⟨p,hp,.inr w.symm⟩⟩
  have at':∀ {i:Nat} {q:Addr × Addr},(ρ++[(D,D)])[i]?=some q -> ρ[i]?=some q \/ (i=ρ.length /\ q=(D,D)):=by
    intro i q h
    by_cases lt:i < ρ.length
    · rw [List.getElem?_append_left lt] at h;exact .inl h
    · have hl':=(List.getElem?_eq_some_iff.mp h).1
      have le:i=ρ.length:=by rw [List.length_append] at hl';simp at hl';exact o1 hl' lt
      subst le
      rw [List.getElem?_append_right (zI _)] at h
      simp at h
      exact .inr ⟨rfl,h.symm⟩
  refine ⟨⟨by rw [List.length_append,List.length_append,R.len];rfl,fun l ob q hl hq=>?_,fun i j q r hij hi hj=>?_,fun q hq=>?_,R.base,R.sys,R.rest⟩,?_⟩
  · rcases at' hq with hq | ⟨rfl,rfl⟩
    · have lt:l < H.length:=by rw [R.len];exact (List.getElem?_eq_some_iff.mp hq).1
      rw [List.getElem?_append_left lt] at hl
      exact (R.objs l ob q hl hq).step st fun b ob _ e=>e
    · rw [<- R.len,List.getElem?_append_right (zI _)] at hl
      simp at hl
      subst hl
      exact .list e (r.step st) z
  · rcases at' hi with hi' | ⟨hi',eq⟩ <;> rcases at' hj with hj' | ⟨hj',er⟩
    · exact R.apart i j q r hij hi' hj'
    · have q:=nD _ (zF hi');rw [er];exact ⟨⟨q.1,q.1⟩,q.2,q.2⟩
    · have q:=nD _ (zF hj');rw [eq];exact ⟨⟨q.1.symm,q.2.symm⟩,q.1.symm,q.2.symm⟩
    · exact absurd (hi'.trans hj'.symm) hij
  · rcases List.mem_append.mp hq with hq | hq
    · exact R.new q hq
    · rw [List.mem_singleton.mp hq];exact ⟨nb,nb⟩
  · rw [R.len]
    exact VR.loc (p:=(D,D)) (by rw [List.getElem?_append_right (zI _)];simp)
structure CInv (cx:Cx) (ρ₁:Rho) (h₁:Heap) (D I:Addr) (cenv:Env) (csc:Scope) (ns':List (Option Str)) (Γ:Env') (xs:List Val) (src:Option Nat) (i:Nat) (done:List Val) (H:Hp) (ρ:Rho) (s:Shared):Prop where
  full:Full ρ₁ h₁ ρ s.heap
  rel:Rel cx H ρ s
  env:∃ o,EnvOk cx cenv csc ns' (Γ++[o]) ρ s.heap
  it:ItOk cx xs I i ρ s.heap src
  acc:∃ vs n,s.heap.get? D=some (Bq vs n) /\ VRs cx ρ s.heap done vs
  nD:¬ Av ρ D
  nI:¬ Av ρ I
variable {Φ:Funs} {l:List Env} {csc:Scope} {x:Str} {cond:MEo} {elt:ME} {ifs:List Expr} {e:Expr}
noncomputable def Ir (T:Tab) (Φ:Funs) (cond:MEo) (elt:ME) (Γ:Env') (x:Val):M (Option Val):=(evalC T Φ cond (Γ++[some x])).bnd fun b=>match b with
  | true=>(Ak T Φ elt (Γ++[some x])).bnd fun y=>.ret (some y)
  | false=>.ret none
theorem Sw {D:Addr} {vs:List Value} {n:Nat} {v:Value} {Q:Value -> Shared -> Prop} {E:Value -> Shared -> Prop} (g:s.heap.get? D=some (Bq vs n)) (z:vs.length <= sizeLine)
    (k:∀ h' n',h'.get? D=some (Bq (vs++[v]) n') -> Heap.SameBut D s.heap h' -> Q .none { s with heap:=h' }):wpAny (model cx.prog cx.w) A (call (.builtin "list.append") [.ref D,v]) Q E s:=by
  refine call_meets F.slot_list_append ⟨_,g,rfl⟩ F.entry_list_append (F.args_list_append_2 _ _) (list_append D vs.toArray n v (by simpa using z)) ⟨g,?_⟩
  obtain ⟨n',e⟩:=Jk vs n (fun x=>x.push v)
  refine k _ n' ?_ (Heap.SameBut.update ..)
  rw [Heap.get?_update_self _ g (by skip;rfl),e]
  simp
theorem Sx {c:Hp -> Bool} {f:Val -> M (Option Val)} {H H':Hp} {r:List Val} (h:E3 c f [] H=.ok r H'):c H=true /\ r=[] /\ H=H':=by
  have h:(if c H=true then Res.ok [] H else .bad)=Res.ok r H':=h
  by_cases q:c H=true
  · rw [if_pos q] at h;cases h;exact ⟨q,rfl,rfl⟩
  · rw [if_neg q] at h;exact D4 h
theorem Qh {c:Hp -> Bool} {f:Val -> M (Option Val)} {m:Val} {xs:List Val} {H H':Hp} {rest:List Val} (h:E3 c f (m :: xs) H=.ok rest H') :
    c H=true /\ ∃ r H3,f m H=.ok r H3 /\ ∃ rest',E3 c f xs H3=.ok rest' H' /\ rest=(match r with | some y=>y :: rest' | none=>rest'):=by
  have h:(if c H=true then ((f m).bnd fun r=>(E3 c f xs).bnd fun ys=>M.ret (match r with | some y=>y :: ys | none=>ys)) H else .bad)=.ok rest H':=h
  by_cases q:c H=true
  · rw [if_pos q] at h
    refine ⟨q,?_⟩
    cases e1:f m H with
    | bad=>rw [C9 e1] at h;exact nomatch h
    | exc c H3=>rw [E2 e1] at h;exact J9 h
    | ok r H3 =>
      rw [Dt e1] at h
      cases e2:E3 c f xs H3 with
      | bad=>rw [C9 e2] at h;exact nomatch h
      | exc c H4=>rw [E2 e2] at h;exact J9 h
      | ok rest' H4 =>
        rw [Dt e2] at h
        cases h
        exact ⟨r,H3,rfl,rest',e2,rfl⟩
  · rw [if_neg q] at h;exact D4 h
theorem Sy {T:Tab} {m:Val} {r:Option Val} {H H3:Hp} (h:Ir T Φ cond elt Γ m H=.ok r H3) :
    ∃ b H4,evalC T Φ cond (Γ++[some m]) H=.ok b H4 /\ ((b=false /\ r=none /\ H4=H3) \/ (b=true /\ ∃ y,Ak T Φ elt (Γ++[some m]) H4=.ok y H3 /\ r=some y)):=by
  unfold Ir at h
  cases e3:evalC T Φ cond (Γ++[some m]) H with
  | bad=>rw [C9 e3] at h;exact D4 h
  | exc c H4=>rw [E2 e3] at h;exact J9 h
  | ok b H4 =>
    rw [Dt e3] at h
    refine ⟨b,H4,rfl,?_⟩
    cases b with
    | false=>cases h;exact .inl ⟨rfl,rfl,rfl⟩
    | true =>
      refine .inr ⟨rfl,?_⟩
      dsimp only at h
      cases e4:Ak T Φ elt (Γ++[some m]) H4 with
      | bad=>rw [C9 e4] at h;exact D4 h
      | exc c H5=>rw [E2 e4] at h;exact J9 h
      | ok y H5=>rw [Dt e4] at h;cases h;exact ⟨y,rfl,rfl⟩
theorem Sz {ns':List (Option Str)} (hl:ns'.length=ns.length+1) (hx':ns'[ns.length]?=some (some x)) {ρ₁:Rho} {s₁:Shared} {D I:Addr} {cenv:Env} {xs ys:List Val} {src:Option Nat} {H₁ H₂:Hp} {px pos:Pos} {iter:Expr} {R:Result -> Shared -> Prop} (hh:A.handled=none)
    (hD:s₁.heap.get? D=none) (hI:s₁.heap.get? I=none) (hDI:D≠I) (hC:s₁.heap.get? cenv.locals=none) (hX:∀ q,csc.names.lookup x=some .cell -> cenv.cells.lookup x=some q -> s₁.heap.get? q=none)
    (hnd:∀ (i j:Nat) (y:Str),ns'[i]?=some (some y) -> ns'[j]?=some (some y) -> i=j) (hΓ:Γ.length=ns.length) (hxk:csc.names.lookup x=some .local \/ csc.names.lookup x=some .cell)
    (fr:Aw cx l ρ₁ s₁.heap) (lvB:E1 cx.h₀ s₁.heap)
    (tests:∀ Γ':Env',Γ'.length=ns'.length -> Sim cx A ((Amb.env cx cenv csc ns' Γ').and (Amb.frames cx l)) (forIn ifs true fun c r=>if r=true then do let ok <- isTrue c cenv (eval c cenv);pure (ForInStep.yield ok) else pure (ForInStep.yield r)) (evalC cx.T Φ cond Γ') BV)
    (elts:∀ Γ':Env',Γ'.length=ns'.length -> Sim cx A ((Amb.env cx cenv csc ns' Γ').and (Amb.frames cx l)) (eval e cenv) (Ak cx.T Φ elt Γ') (Amb.vr cx))
    (hz:ys.length < sizeLine) {s:Shared} {ρ:Rho} (ci:CInv cx ρ₁ s₁.heap D I cenv csc ns' Γ xs src 0 [] H₁ ρ s) (hres:E3 (chk src xs) (Ir cx.T Φ cond elt Γ) xs H₁=.ok ys H₂)
    (k:∀ ρ' s',Full ρ₁ s₁.heap ρ' s'.heap -> Rel cx (H₂++[.list ys]) ρ' s' -> VR cx ρ' s'.heap (.loc H₂.length) (.ref D) -> (∃ m,s'.heap.Ns cenv.locals m) -> ¬ Av ρ' cenv.locals -> R (.ok .next) s') :
    codeAny (model cx.prog cx.w) A (.compLoop (.ListComp e [⟨.Name x px,iter,ifs,0⟩] csc pos) 0 (.ref I) (.ref D) cenv) R s:=by
  obtain ⟨Inv,hInv⟩:∃ Inv:Nat -> Shared -> Prop,∀ n s,Inv n s↔∃ i done H ρ rest,CInv cx ρ₁ s₁.heap D I cenv csc ns' Γ xs src i done H ρ s /\ i <= xs.length /\ n=xs.length+1 - i /\
    E3 (chk src xs) (Ir cx.T Φ cond elt Γ) (xs.drop i) H=.ok rest H₂ /\ done++rest=ys:=⟨_,fun _ _=>Iff.rfl⟩
  refine codeAny_compLoop_tests Inv ?_ (xs.length+1) ((hInv _ _).mpr ⟨0,[],H₁,ρ,ys,ci,Nat.zero_le _,rfl,hres,rfl⟩)
  intro n s hin
  refine Af fun G kG=>?_
  refine ex5 ((hInv _ _).mp hin) fun i done H ρ rest zz=>Fo zz fun ci hi hr0 hr hys=>?_
  refine ex2 ci.acc fun vs nn zz=>Ac zz fun gD rD=>?_
  obtain ⟨oo,eok⟩:=ci.env
  refine ex1 ci.it.obj fun oI zz=>Ac zz fun gI iO=>?_
  refine kG ?_
  cases hx:xs[i]? with
  | none =>
    have hlen:=List.getElem?_eq_none_iff.mp hx
    rw [List.drop_eq_nil_of_le hlen] at hr
    refine An (Sx hr) fun ck zr1 zr2=>?_;subst zr1;subst zr2
    rw [List.append_nil] at hys
    subst hys
    refine O8 hh ci.rel ci.it ck hx fun h' tk he=>?_
    have gD':h'.get? D=some (Bq vs nn):=he D _ hDI gD
    have st:Step ρ s.heap ρ h':=Step.ext gI he iO.not.1 iO.not.2
    have bI:cx.h₀.get? I=none:=lvB.none hI
    have R':Rel cx H ρ { s with heap:=h',toks:=tk }:=ci.rel.same st (fun b o ho eb=>he b o (fun w=>ci.nI (w▸ho)) eb) fun b o eb=>he b o (fun w=>by rw [w,bI] at eb;exact nomatch eb) (ci.rel.base b o eb)
    obtain ⟨R2,v2⟩:=Rel.adopt (s:={ s with heap:=h',toks:=tk }) R' gD' (rD.step st) (zL hz) ci.nD (lvB.none hD)
    have F2:Full ρ₁ s₁.heap ρ h':=ci.full.fresh hI he
    obtain ⟨m,hm⟩:=eok.st.loc
    have nIl:I≠cenv.locals:=eok.st.notLoc gI iO.notDict
    refine k _ _ (F2.addOwn ⟨hD,hD⟩) R2 v2 ⟨m,Bh hm fun o eo=>⟨o,he _ o (fun w=>nIl w.symm) eo,rfl⟩⟩ ?_
    intro ⟨p,hp,h⟩
    rcases List.mem_append.mp hp with hp | hp
    · exact eok.st.locN ⟨p,hp,h⟩
    · rw [List.mem_singleton.mp hp] at h
      have:cenv.locals=D:=by rcases h with h | h <;> exact h
      exact eok.st.notLoc gD (fun es k q=>by cases q) this.symm
  | some m =>
    have lt:i < xs.length:=(List.getElem?_eq_some_iff.mp hx).1
    have hdrop:xs.drop i=m :: xs.drop (i+1):=by
      rw [List.drop_eq_getElem_cons lt]
      rw [List.getElem?_eq_getElem lt] at hx
      cases hx;rfl
    rw [hdrop] at hr
    refine Af fun G kG=>?_
    refine Ac (Qh hr) fun ck zz=>ex2 zz fun r H3 zz=>Ac zz fun e1 zz=>ex1 zz fun rest' zz=>Ac zz fun e2 hrest=>?_
    refine kG ?_
    refine Mm ci.rel ci.it ck hx fun v h' tk hs hlive kk=>?_
    obtain ⟨oI',gI'⟩:=hlive
    have st:Step ρ s.heap ρ h':=Step.but gI' gI hs iO.not.1 iO.not.2
    obtain ⟨vm,it'⟩:=kk st
    have bI:cx.h₀.get? I=none:=lvB.none hI
    have R':Rel cx H ρ { s with heap:=h',toks:=tk }:=ci.rel.but gI' gI hs iO.not.1 iO.not.2 ci.nI bI
    have ext:∀ b o,b≠I -> s.heap.get? b=some o -> h'.get? b=some o:=fun b o nb eb=>by rw [hs.2 b nb];exact eb
    have eok':EnvOk cx cenv csc ns' (Γ++[oo]) ρ h':=eok.but ext (eok.st.notLoc gI iO.notDict) (eok.st.notCell gI iO.notCell) st
    have F':Full ρ₁ s₁.heap ρ h':=ci.full.fresh hI ext
    have gD':h'.get? D=some (Bq vs nn):=ext D _ hDI gD
    have own:Fm csc ns' ns.length x=true:=(Bool.and_eq_true _ _).mpr ⟨(Bool.or_eq_true _ _).mpr (hxk.imp decide_eq_true decide_eq_true),decide_eq_true hx'⟩
    refine wpAny_assign_Name (D7 (s:={ s with heap:=h',toks:=tk }) (Γ:=Γ++[oo]) (by rw [List.length_append,hΓ,hl];rfl) hnd R' eok' own vm fun h2 tk2 FS R2 eok2 hq=>?_)
    refine Af fun G kG=>?_
    refine ex2 hq fun q oq zz=>An zz fun hqd hqs gq=>?_
    have set_eq:(Γ++[oo]).set ns.length (some m)=Γ++[some m]:=by
      rw [<- hΓ,List.set_append_right _ _ (zI _),Nat.sub_self];rfl
    rw [set_eq] at eok2
    have qfresh:s₁.heap.get? q=none:=by
      rcases hqd with ⟨_,rfl⟩ | ⟨w1,w2⟩
      · exact hC
      · exact hX q w1 w2
    have ext2:∀ b o,b≠q -> h'.get? b=some o -> h2.get? b=some o:=fun b o nb eb=>by rw [hqs.2 b nb];exact eb
    have F2:Full ρ₁ s₁.heap ρ h2:=F'.fresh qfresh ext2
    have qD:D≠q:=by
      rcases hqd with ⟨_,rfl⟩ | ⟨w1,w2⟩
      · exact eok'.st.notLoc gD' (fun es k q=>by cases q)
      · exact fun w=>eok'.st.notCell gD' (fun v q=>by cases q) x (w▸w2)
    refine ex1 it'.obj fun oI2 zz=>Ac zz fun gI2 iO2=>?_
    refine kG ?_
    have qI:I≠q:=by
      rcases hqd with ⟨_,rfl⟩ | ⟨w1,w2⟩
      · exact eok'.st.notLoc gI2 iO2.notDict
      · exact fun w=>eok'.st.notCell gI2 iO2.notCell x (w▸w2)
    have St2:Step ρ h' ρ h2:=FullS.step eok'.st FS
    have it2:ItOk cx xs I (i+1) ρ h2 src:=it'.step St2 fun o eo=>ext2 I o qI eo
    have rD2:VRs cx ρ h2 done vs:=(rD.step st).step St2
    have gD2:h2.get? D=some (Bq vs nn):=ext2 D _ qD gD'
    have lenG:(Γ++[some m]).length=ns'.length:=by rw [List.length_append,hΓ,hl];rfl
    -- the tests
    refine ex2 (Sy e1) fun b H4 zz=>Ac zz fun e3 e4=>?_
    have T:=tests (Γ++[some m]) lenG H ρ { s with heap:=h2,toks:=tk2 } R2 ⟨eok2,fr.full F2⟩
    rw [e3] at T
    refine zE T (fun b' s3 ⟨ρ3,F3,R3,hb⟩=>?_) fun _ _ q=>q.elim
    have hb':b'=b:=hb
    refine Eq.symm hb'▸?_
    have F3':Full ρ₁ s₁.heap ρ3 s3.heap:=F2.trans F3
    have gD3:s3.heap.get? D=some (Bq vs nn):=F3.keep.exact gD2 ci.nD (fun es k q=>by cases q)
    have nD3:¬ Av ρ3 D:=F3.grow.not ci.nD gD2
    refine ex1 it2.obj fun oI3 zz=>Ac zz fun gI3 iO3=>?_
    have it3:ItOk cx xs I (i+1) ρ3 s3.heap src:=it2.step F3.step fun o eo=>by
      rw [gI3] at eo;cases eo
      exact F3.keep.exact gI3 ci.nI iO3.notDict
    have nI3:¬ Av ρ3 I:=F3.grow.not ci.nI gI3
    have rD3:VRs cx ρ3 s3.heap done vs:=rD2.step F3.step
    have eok3:EnvOk cx cenv csc ns' (Γ++[some m]) ρ3 s3.heap:=eok2.full F3
    rcases e4 with ⟨rfl,rfl,rfl⟩ | ⟨rfl,y,e4,rfl⟩
    · skip
      exact ⟨xs.length+1 - (i+1),by exact Aff lt hr0,(hInv _ _).mpr ⟨i+1,done,H4,ρ3,rest',⟨F3',R3,⟨_,eok3⟩,it3,⟨vs,nn,gD3,rD3⟩,nD3,nI3⟩,lt,rfl,e2,by rw [<- hys,hrest]⟩⟩
    · skip
      have T2:=elts (Γ++[some m]) lenG H4 ρ3 s3 R3 ⟨eok3,fr.full F3'⟩
      rw [e4] at T2
      refine zE T2 (fun yv s4 ⟨ρ4,F4,R4,hy⟩=>?_) fun _ _ q=>q.elim
      have F4':Full ρ₁ s₁.heap ρ4 s4.heap:=F3'.trans F4
      have gD4:s4.heap.get? D=some (Bq vs nn):=F4.keep.exact gD3 nD3 (fun es k q=>by cases q)
      have nD4:¬ Av ρ4 D:=F4.grow.not nD3 gD3
      refine ex1 it3.obj fun oI4 zz=>Ac zz fun gI4 iO4=>?_
      have it4:ItOk cx xs I (i+1) ρ4 s4.heap src:=it3.step F4.step fun o eo=>by
        rw [gI4] at eo;cases eo
        exact F4.keep.exact gI4 nI3 iO4.notDict
      have nI4:¬ Av ρ4 I:=F4.grow.not nI3 gI4
      have rD4:VRs cx ρ4 s4.heap done vs:=rD3.step F4.step
      have eok4:=eok3.full F4
      have hlenD:vs.length < sizeLine:=by
        rw [<- rD.length]
        have t1:ys.length=done.length+rest.length:=by rw [<- hys,List.length_append]
        have t2:done.length < ys.length:=by rw [t1,hrest];simp
        exact Aji hz t2 t1
      refine Sw gD4 (zL hlenD) fun h5 n5 gD5 hs5=>?_
      have St5:Step ρ4 s4.heap ρ4 h5:=Step.but gD5 gD4 hs5 Ev.1 Ev.2
      have ext5:∀ b o,b≠D -> s4.heap.get? b=some o -> h5.get? b=some o:=fun b o nb eb=>by rw [hs5.2 b nb];exact eb
      have R5:Rel cx H3 ρ4 { s4 with heap:=h5 }:=R4.but (tk:=s4.toks) gD5 gD4 hs5 Ev.1 Ev.2 nD4 (lvB.none hD)
      refine ⟨xs.length+1 - (i+1),by exact Aff lt hr0,(hInv _ _).mpr ⟨i+1,done++[y],H3,ρ4,rest',⟨F4'.fresh hD ext5,R5,⟨_,eok4.but ext5 (eok4.st.notLoc gD4 (fun es k q=>by cases q)) (eok4.st.notCell gD4 (fun v q=>by cases q)) St5⟩,it4.step St5 fun o eo=>ext5 I o (fun w=>hDI w.symm) eo,⟨_,_,gD5,(rD4.step St5).append (.one (hy.step St5))⟩,nD4,nI4⟩,lt,rfl,e2,?_⟩⟩
      rw [<- hys,hrest,List.append_assoc];rfl
end
theorem Fu {i:Expr} (h:Ed i=true) (env:Env) (x:Value):foldedSetIterable i env x=pure x:=by
  cases i <;> first | rfl | exact Am h
section
variable {cx:Cx} {N:Names} {A:Around} {env:Env} {sc csc:Scope} {ns:List (Option Str)} {Γ:Env'} {H:Hp} {ρ ρ':Rho} {s:Shared} {Φ:Funs} {l:List Env} {x:Str} {cond:MEo} {elt:ME} {ifs:List Expr} {e:Expr}
theorem Rel.ext (R:Rel cx H ρ s) {h':Heap} {tk:Nat} {a:Addr} {o:Obj} (e:s.heap.get? a=some o) (hs:Heap.ExtBut a s.heap h') (n1:¬ Fk o) (n2:∀ C,¬ C7 o C) (no:¬ Av ρ a) (nb:cx.h₀.get? a=none) :
    Rel cx H ρ { s with heap:=h',toks:=tk } :=
  R.same (Step.ext e hs n1 n2) (fun b ob ho eb=>hs b ob (fun q=>no (q▸ho)) eb) fun b ob eb=>hs b ob (fun q=>by subst q;rw [nb] at eb;cases eb) (R.base b ob eb)
theorem S1 {xs:List Val} {I:Addr} {i:Nat} {src:Option Nat} (x:ItOk cx xs I i ρ s.heap src) {Q:Value -> Shared -> Prop} {E:Value -> Shared -> Prop} (k:Q (.ref I) s):wpAny (model cx.prog cx.w) A (pyIter (.ref I)) Q E s:=by
  cases x with
  | list hp hi=>exact wpAny_pyIter_listiter hi k
  | tup e n r hi=>exact wpAny_pyIter_tupleiter hi k
  | rng e hi=>exact wpAny_pyIter_rangeiter hi k
structure CParts (cx:Cx) (A:Around) (Φ:Funs) (l:List Env) (csc:Scope) (ns':List (Option Str)) (cond:MEo) (elt:ME) (ifs:List Expr) (e:Expr):Prop where
  tests:∀ (cenv:Env) (Γ':Env'),Γ'.length=ns'.length -> Sim cx A ((Amb.env cx cenv csc ns' Γ').and (Amb.frames cx l)) (forIn ifs true fun c r=>if r=true then do let ok <- isTrue c cenv (eval c cenv);pure (ForInStep.yield ok) else pure (ForInStep.yield r)) (evalC cx.T Φ cond Γ') BV
  elts:∀ (cenv:Env) (Γ':Env'),Γ'.length=ns'.length -> Sim cx A ((Amb.env cx cenv csc ns' Γ').and (Amb.frames cx l)) (eval e cenv) (Ak cx.T Φ elt Γ') (Amb.vr cx)
theorem Fv (hnd:∀ (i j:Nat) (y:Str),ns[i]?=some (some y) -> ns[j]?=some (some y) -> i=j) (hx:csc.names.lookup x=some .local \/ csc.names.lookup x=some .cell) :
    ∀ (i j:Nat) (y:Str),(D0 csc ns++[some x])[i]?=some (some y) -> (D0 csc ns++[some x])[j]?=some (some y) -> i=j:=by
  have lenN:(D0 csc ns).length=ns.length:=by unfold D0;rw [List.length_map]
  have at':∀ (i:Nat) (y:Str),(D0 csc ns++[some x])[i]?=some (some y) -> (ns[i]?=some (some y) /\ csc.names.lookup y=some .free) \/ (i=ns.length /\ y=x):=by
    intro i y h
    by_cases lt:i < ns.length
    · rw [List.getElem?_append_left (by rw [lenN];exact lt)] at h
      exact .inl (Pc h)
    · rw [List.getElem?_append_right (by rw [lenN];exact Zj lt),lenN] at h
      cases q:i - ns.length with
      | zero=>rw [q] at h;simp at h;exact .inr ⟨by exact Agy q lt,h.symm⟩
      | succ n=>rw [q] at h;simp at h
  intro i j y hi hj
  rcases at' i y hi with ⟨a1,a2⟩ | ⟨a1,a2⟩ <;> rcases at' j y hj with ⟨b1,b2⟩ | ⟨b1,b2⟩
  · exact hnd i j y a1 b1
  · subst b2;rcases hx with w | w <;> rw [w] at a2 <;> cases a2
  · subst a2;rcases hx with w | w <;> rw [w] at b2 <;> cases b2
  · exact Ajj a1 b1
theorem Kj (hh:A.handled=none) (hc:Ji sc csc x=true) (hnd:∀ (i j:Nat) (y:Str),ns[i]?=some (some y) -> ns[j]?=some (some y) -> i=j) (hΓ:Γ.length=ns.length)
    (pt:CParts cx A Φ l csc (D0 csc ns++[some x]) cond elt ifs e)
    {v:Val} {xv:Value} {xs ys:List Val} {src:Option Nat} {H₂:Hp} {px pos:Pos} {iter:Expr} {RR:Value -> Addr -> Result -> Shared -> Prop} {E:Value -> Shared -> Prop}
    (R:Rel cx H ρ s) (e0:EnvOk cx env sc ns Γ ρ s.heap) (fr:Aw cx l ρ s.heap) (vr:VR cx ρ s.heap v xv) (hit:Cy v H=some (xs,src)) (hres:E3 (chk src xs) (Ir cx.T Φ cond elt Γ) xs H=.ok ys H₂) (hz:ys.length < sizeLine)
    (k:∀ D C ρ' s',Full ρ s.heap ρ' s'.heap -> Rel cx (H₂++[.list ys]) ρ' s' -> VR cx ρ' s'.heap (.loc H₂.length) (.ref D) -> (∃ m,s'.heap.Ns C m) -> ¬ Av ρ' C -> s.heap.get? C=none -> RR (.ref D) C (.ok .next) s') :
    wpAny (model cx.prog cx.w) A (pyIter xv) (fun it s₂=>wpAny (model cx.prog cx.w) A (newList []) (fun acc s₃=>wpAny (model cx.prog cx.w) A (newFunctionEnv csc env.globals (Fn env csc.names []) [] env.qual none .none (some env)) (fun cenv s₄ =>
      codeAny (model cx.prog cx.w) A (.compStart (.ListComp e [⟨.Name x px,iter,ifs,0⟩] csc pos) 0 it acc { cenv with scope:=relabel csc env }) (RR acc cenv.locals) s₄) E s₃) E s₂) E s:=by
  refine An (By hc) fun c1 c2 c3=>?_
  have lvB:E1 cx.h₀ s.heap:=fun b o e=>⟨o,R.base b o e⟩
  refine Kh R vr hit fun o go it0=>?_
  refine wpAny_newObj_type ?_
  refine I0 _ ?_
  -- the three heaps
  generalize hs1:({ s with heap:=s.heap.push o }:Shared)=s1 at it0
  have h1:s1.heap=s.heap.push o:=by rw [<- hs1]
  have F1:Full ρ s.heap ρ s1.heap:=by rw [h1];exact Full.push _ _ _
  have R1:Rel cx H ρ s1:=by rw [<- hs1];exact R.push o s.toks
  generalize hs2:({ s1 with heap:=s1.heap.push (Bq [] 0) }:Shared)=s2
  have h2:s2.heap=s1.heap.push (Bq [] 0):=by rw [<- hs2]
  have F2:Full ρ s1.heap ρ s2.heap:=by rw [h2];exact Full.push _ _ _
  have R2:Rel cx H ρ s2:=by rw [<- hs2];exact R1.push (Bq [] 0) s1.toks
  have z1:s1.heap.objs.size=s.heap.objs.size+1:=by rw [h1,Heap.size_push]
  have z2:s2.heap.objs.size=s.heap.objs.size+2:=by rw [h2,Heap.size_push,z1]
  have F12:Full ρ s.heap ρ s2.heap:=F1.trans F2
  have e2:EnvOk cx env sc ns Γ ρ s2.heap:=e0.full F12
  obtain ⟨ce,cf⟩:=Wi R2 e2 hc hΓ
  have F3:Full ρ s2.heap ρ (Cq csc s2.heap):=Full.more (Ci csc s2.heap)
  have R3:Rel cx H ρ { s2 with heap:=Cq csc s2.heap }:=R2.more (tk:=s2.toks) (Ci csc s2.heap)
  have hDn:s.heap.get? s1.heap.objs.size=none:=Ge (by rw [z1];exact Nat.le_succ _)
  have hIn:s.heap.get? s.heap.objs.size=none:=Ao _
  have hCn:s.heap.get? s2.heap.objs.size=none:=Ge (by rw [z2];exact zM _ _)
  have gD2:s2.heap.get? s1.heap.objs.size=some (Bq [] 0):=by rw [h2];exact Heap.get?_push_size _ rfl
  have it1:ItOk cx xs s.heap.objs.size 0 ρ s1.heap src:=by rw [h1];exact it0
  have go1:s1.heap.get? s.heap.objs.size=some o:=by rw [h1];exact go
  have it3:ItOk cx xs s.heap.objs.size 0 ρ (Cq csc s2.heap) src:=(it1.step F2.step fun o' eo=>by rw [h2];exact Heap.get?_push_of_some _ eo).step F3.step (Ci csc s2.heap _)
  have ci:CInv cx ρ s.heap s1.heap.objs.size s.heap.objs.size (E7 csc env s2.heap.objs.size) csc (D0 csc ns++[some x]) Γ xs src 0 [] H ρ { s2 with heap:=Cq csc s2.heap } :=
    ⟨F12.trans F3,R3,⟨none,ce⟩,it3,⟨[],0,Ci csc s2.heap _ _ gD2,.nil⟩,R.fresh_not hDn,R.fresh_not hIn⟩
  have loop:codeAny (model cx.prog cx.w) A (.compLoop (.ListComp e [⟨.Name x px,iter,ifs,0⟩] csc pos) 0 (.ref s.heap.objs.size) (.ref s1.heap.objs.size) (E7 csc env s2.heap.objs.size)) (RR (.ref s1.heap.objs.size) s2.heap.objs.size) { s2 with heap:=Cq csc s2.heap }:=by
    have lenN:(D0 csc ns).length=ns.length:=by unfold D0;rw [List.length_map]
    refine Sz (by rw [List.length_append,lenN];rfl) (by rw [List.getElem?_append_right (by rw [lenN];exact zI _),lenN,Nat.sub_self];rfl) (s₁:=s) (ρ₁:=ρ) (l:=l) hh hDn hIn (by rw [z1];exact Nat.succ_ne_self _) hCn (fun q w1 w2=>?_) (Fv hnd c2) hΓ c2 fr lvB (fun Γ' h'=>pt.tests _ Γ' h') (fun Γ' h'=>pt.elts _ Γ' h') hz ci hres fun ρ' s' F' R' v' m' n'=>?_
    · have:=cf q w1 w2
      cases g:s.heap.get? q with
      | none=>rfl
      | some ob =>
        obtain ⟨o',eo'⟩:=F12.live q ob g
        rw [this] at eo';exact Ae eo'
    · exact k _ _ ρ' s' F' R' v' m' n' hCn
  have key:=codeAny_compStart_list loop (S1 (ρ:=ρ) (s:={ s2 with heap:=Cq csc s2.heap }) it3 loop)
  refine Eq.symm hs2▸?_
  exact key
theorem Hj {E E':Value -> Shared -> Prop} {use:Option (Value -> Sem Unit)} {Q Q':Value -> Shared -> Prop} {acc:Value} {C:Addr} {r:Result} {s':Shared} {M:Model} (h:compPost M A E use Q acc C r s') (k1:∀ a s,Q a s -> Q' a s) (k2:∀ e s,E e s -> E' e s):compPost M A E' use Q' acc C r s':=by
  unfold compPost at h ⊢
  cases r with
  | ok f =>
    cases use with
    | none=>refine ex1 h fun m zz=>Ac zz fun hm h=>?_;exact ⟨m,hm,fun h' hs=>k1 _ _ (h h' hs)⟩
    | some u=>exact zE h (fun _ s'' ⟨m,hm,h⟩=>⟨m,hm,fun h' hs=>k1 _ _ (h h' hs)⟩) k2
  | error x =>
    cases use with
    | none=>refine ex1 h fun m zz=>Ac zz fun hm h=>?_;exact ⟨m,hm,fun h' hs c hc=>zE (h h' hs c hc) (fun _ _ q=>q) k2⟩
    | some u=>refine ex1 h fun m zz=>Ac zz fun hm h=>?_;exact ⟨m,hm,fun h' hs c hc=>zE (h h' hs c hc) (fun _ _ q=>q) k2⟩
theorem Wj {α:Type} {m:M α} {H H':Hp} {a:α} (h:M.quiet m H=.ok a H'):m H=.ok a H':=by
  delta M.quiet at h
  cases e:m H with
  | exc c K=>rw [e] at h;exact D4 h
  | _=>rw [e] at h;exact h
theorem S2 {α:Type} {m:M α} {H H':Hp} {c:Nat} (h:M.quiet m H=.exc c H'):False:=by
  delta M.quiet at h
  cases e:m H with
  | _=>rw [e] at h;cases h
noncomputable def I4 (T:Tab) (Φ:Funs) (cond:MEo) (elt:ME) (Γ:Env') (v:Val):M Val:=(M.look (Cy v)).bnd fun p =>
  (M.quiet (E3 (chk p.2 p.1) (Ir T Φ cond elt Γ) p.1)).bnd fun ys=>if ys.length < lid then M.alloc (.list ys) else .bad
theorem Mo (T:Tab) (Φ:Funs) (cond:MEo) (elt it:ME) (Γ:Env'):Ak T Φ (.comp elt it cond) Γ=(Ak T Φ it Γ).bnd (I4 T Φ cond elt Γ):=by
  rfl
theorem Gs {T:Tab} {Φ:Funs} {cond:MEo} {elt:ME} {Γ:Env'} {v:Val} {H:Hp}:I4 T Φ cond elt Γ v H=.bad \/
    ∃ xs src ys H₂,Cy v H=some (xs,src) /\ E3 (chk src xs) (Ir T Φ cond elt Γ) xs H=.ok ys H₂ /\ ys.length < sizeLine /\ I4 T Φ cond elt Γ v H=.ok (.loc H₂.length) (H₂++[.list ys]):=by
  unfold I4
  cases e1:Cy v H with
  | none=>left;rw [C9 (Ft e1)]
  | some p =>
    rw [Dt (Fs e1)]
    obtain ⟨xs,src⟩:=p
    dsimp only
    cases e2:M.quiet (E3 (chk src xs) (Ir T Φ cond elt Γ) xs) H with
    | bad=>left;rw [C9 e2]
    | exc c H'=>exact (S2 e2).elim
    | ok ys H₂ =>
      rw [Dt e2]
      by_cases q:ys.length < lid
      · right
        refine ⟨xs,src,ys,H₂,rfl,Wj e2,by skip;exact q,?_⟩
        rw [if_pos q];rfl
      · left;rw [if_neg q];rfl
theorem S3 {h:Heap} {C:Addr} {m:Str -> Option Value} (n:h.Ns C m):∃ o,h.get? C=some o /\ ¬ Fk o /\ ∀ D,¬ C7 o D:=by
  refine Af fun G kG=>?_
  refine ex3 n fun o es ep zz=>An zz fun e d _=>?_
  refine kG ?_
  exact ⟨o,e,fun f=>f.notDict _ _ d,fun D f=>f.notDict _ _ d⟩
theorem Wk (hh:A.handled=none) {it:ME} {i:Expr} {px pos:Pos} (hi:Ed i=true) (hc:Ji sc csc x=true) (hnd:∀ (i j:Nat) (y:Str),ns[i]?=some (some y) -> ns[j]?=some (some y) -> i=j) (hΓ:Γ.length=ns.length)
    (pt:CParts cx A Φ l csc (D0 csc ns++[some x]) cond elt ifs e) (y:EOk cx A ((Amb.env cx env sc ns Γ).and (Amb.frames cx l)) Φ env Γ it i) :
    EOk cx A ((Amb.env cx env sc ns Γ).and (Amb.frames cx l)) Φ env Γ (.comp elt it cond) (.ListComp e [⟨.Name x px,i,ifs,0⟩] csc pos):=by
  refine An (By hc) fun c1 c2 c3=>?_
  refine EOk.of ?_ rfl
  intro H ρ s R p
  rw [Mo]
  refine Bf.bindK (K':=fun Q E s=>wpAny (model cx.prog cx.w) A (eval (.ListComp e [⟨.Name x px,i,ifs,0⟩] csc pos) env) Q E s)
    (K:=fun xv Q E s=>wpAny (model cx.prog cx.w) A (pyIter xv) (fun it s₂=>wpAny (model cx.prog cx.w) A (newList []) (fun acc s₃=>wpAny (model cx.prog cx.w) A (newFunctionEnv csc env.globals (Fn env csc.names []) [] env.qual none .none (some env)) (fun cenv s₄ =>
      codeAny (model cx.prog cx.w) A (.compStart (.ListComp e [⟨.Name x px,i,ifs,0⟩] csc pos) 0 it acc { cenv with scope:=relabel csc env }) (compPost (model cx.prog cx.w) A E none Q acc cenv.locals) s₄) E s₃) E s₂) E s) (y.val H ρ s R p) ?_ ?_ ?_
  · intro b xv H1 ρ1 s1 _ F1 R1 vr
    rcases Gs (T:=cx.T) (Φ:=Φ) (cond:=cond) (elt:=elt) (Γ:=Γ) (v:=b) (H:=H1) with w | ⟨xs,src,ys,H₂,w1,w2,w3,w4⟩
    · rw [w];trivial
    · rw [w4]
      refine Kj hh hc hnd hΓ pt R1 (p.1.full F1) (p.2.full F1) vr w1 w2 w3 fun D C ρ' s' F' R' v' m' n' hC=>?_
      refine Af fun G kG=>?_
      obtain ⟨m,hm⟩:=m'
      refine ex1 (S3 hm) fun oC zz=>An zz fun gC nf nx=>?_
      refine kG ?_
      have lvB:E1 cx.h₀ s1.heap:=fun b o e=>⟨o,R1.base b o e⟩
      refine ⟨m,hm,fun h' hs=>?_⟩
      have st:Step ρ' s'.heap ρ' h':=Step.ext gC hs.extBut nf nx
      exact ⟨ρ',F'.fresh hC hs.extBut,R'.ext (tk:=s'.toks) gC hs.extBut nf nx n' (lvB.none hC),v'.step st⟩
  · intro xv Q E Q' E' s h k1 k2
    exact zE h (fun it s₂ h2=>zE h2 (fun acc s₃ h3=>zE h3 (fun cenv s₄ h4=>codeAny_mono h4 fun r s' hr=>Hj hr k1 k2) k2) k2) k2
  · intro Q E h
    exact wpAny_comprehension_free (use:=none) (g:=⟨.Name x px,i,ifs,0⟩) (gs:=[]) rfl (fun xv=>Fu hi env xv)
      (Hi fun p' hp' hf=>p.1.st.hasCell p'.1 (by rcases (c3 p' hp').2 hf with w | w;exact .inl w;exact .inr w)) c1 (fun p' hp' hl=>by rw [(c3 p' hp').1,hl]) h
end
section
variable {cx:Cx} {N:Names} {A:Around} {Φ:Funs} {l:List Env} {d:Nat} {env:Env} {sc:Scope} {ns:List (Option Str)} {Γ:Env'} {H:Hp} {ρ:Rho} {s:Shared}
theorem VR.handed {m:Val} {v:Value} {h:Heap} (x:VR cx ρ h m v):handedOut v=pure v:=by cases x <;> rfl
theorem Rel.instAt (R:Rel cx H ρ s) {i c:Nat} {fs:List (Nat × Val)} {p:Addr × Addr} (hH:H[i]?=some (.inst c fs)) (hρ:ρ[i]?=some p) :
    ∃ C o mA,(cx.T.meth c 0).isSome=true /\ cx.cls[c]?=some (.ref C) /\ s.heap.get? p.1=some o /\ o.cls=.ref C /\ (∀ c,o.data≠.cls c) /\ o.dict=some p.2 /\ p.2≠p.1 /\ s.heap.Ns1 p.2 mA /\
      (∀ n v,fs.lookup n=some v -> ∃ y x,cx.attrs[n]?=some y /\ mA y=some x /\ VR cx ρ s.heap v x) /\ (∀ y,mA y≠none -> ∃ n v,cx.attrs[n]?=some y /\ fs.lookup n=some v):=by
  have:=R.objs i _ p hH hρ
  generalize ho:HObj.inst c fs=o at this
  cases this with
  | list _ _ _=>exact nomatch ho
  | dict _ _ _=>cases ho
  | hid _=>cases ho
  | inst k0 k e k1 k2 k3 k4 n f g=>cases ho;exact ⟨_,_,_,k0,k,e,k1,k2,k3,k4,n,f,g⟩
theorem N3 {h:Heap} {a b C:Addr} {o:Obj} {mA:Str -> Option Value} (e:h.get? a=some o) (k1:o.cls=.ref C) (k2:∀ c,o.data≠.cls c) (k3:o.dict=some b) (k4:b≠a) (n:h.Ns1 b mA):h.Inst a C mA :=
  ⟨o,e,k1,k2,.inr ⟨b,k3,k4,n⟩⟩
theorem Gm.looks {α β:Type} {f:Hp -> Option β} {K:(α -> Shared -> Prop) -> (Value -> Shared -> Prop) -> Shared -> Prop} {V:β -> α -> Amb} (y:∀ b,f H=some b -> Gm cx (.ok b H) K V ρ s):Gm cx (M.look f H) K V ρ s:=by
  cases e:f H with
  | none=>rw [Ft e];trivial
  | some b=>rw [Fs e];exact y b e
theorem Qi (CB:ClsBase cx N) (R:Rel cx H ρ s) {i c n:Nat} {fs:List (Nat × Val)} {p:Addr × Addr} {y:Str} {m:Val} (hH:H[i]?=some (.inst c fs)) (hρ:ρ[i]?=some p) (hy:cx.attrs[n]?=some y) (hm:fs.lookup n=some m) {Q:Value -> Shared -> Prop} {E:Value -> Shared -> Prop}
    (k:∀ v tk,VR cx ρ s.heap m v -> Q v { s with toks:=tk }):wpAny (model cx.prog cx.w) A (getAttr (.ref p.1) y true) Q E s:=by
  refine Af fun G kG=>?_
  refine ex3 (R.instAt hH hρ) fun C o mA zz=>Zi zz fun k0 kc e k1 k2 k3 k4 nn f g=>?_
  refine Vk ((CB.cls c C kc k0).is) fun nm q Nn bs sn sub col dd q0 q1 q2 q3 q5 mN zz=>Nj zz fun hC hN h1 h2 h3 h4 h5=>?_
  refine ex2 (f n m hm) fun y' x zz=>An zz fun hy' hx vr=>?_
  refine kG ?_
  rw [hy] at hy';cases hy'
  exact load_attr (R.base _ _ hC) (hN.keeps R.base) h1 (h4 n y hy).1 (h4 n y hy).2 (N3 e k1 k2 k3 k4 nn) hx vr.handed (k x _ vr)
set_option tactic.hygienic true in
theorem Wl (CB:ClsBase cx N) {P:Amb} {a:ME} {n:Nat} {v:Expr} {y:Str} {pos:Pos} (hn:Dz N.attrs y n=true) (hs:Cn v=true) (x:EOk cx A P Φ env Γ a v) :
    EOk cx A P Φ env Γ (.attr a n) (.Attribute v y pos):=by
  refine EOk.of ?_ rfl
  intro H ρ s R p
  refine Bf.bindK (K':=fun Q E s=>wpAny (model cx.prog cx.w) A (eval (.Attribute v y pos) env) Q E s) (K:=fun o Q E s=>wpAny (model cx.prog cx.w) A (getAttr o y true) Q E s) (x.val H ρ s R p) ?_ (fun _=>I3 _) ?_
  · intro b o H1 ρ1 s1 _ F1 R1 vr
    have vr':VR cx ρ1 s1.heap b o:=vr
    refine Gm.looks fun m hm=>?_
    split at hm
    · rename_i i
      refine ex1 vr'.loc_inv fun p1 zz=>Ac zz fun hp1 hr0=>?_;refine Eq.symm hr0▸?_
      split at hm
      · rename_i c fs hi
        exact Qi CB R1 hi hp1 (CB.attr y n (Co hn)) hm fun v tk vr=>⟨ρ1,Full.refl _ _,R1.toks tk,vr⟩
      · exact Ae hm
    · exact Ae hm
  · intro Q E h
    rw [arm_eval_Attribute,Dn hs]
    exact zB (zE h (fun o s₁ h₁=>zB (wpAny_standAt (zB (wpAny_holding (zE h₁ (fun r s₂ h₂=>zB (wpAny_letTemporaryGo (zH h₂))) fun _ _ q=>q))))) fun _ _ q=>q)
theorem Jm:∀ (fs:List (Nat × Val)) (n:Nat) (v:Val),(Rh fs n v).lookup n=some v
  | [],n,v=>by
    show List.lookup n [(n,v)]=_
    simp
  | (m,u) :: r,n,v=>by
    rw [L6]
    by_cases e:m=n
    · rw [if_pos e,e];simp
    · rw [if_neg e,List.lookup_cons]
      have:(n == m)=false:=by simpa using fun q:n=m=>e q.symm
      rw [this];exact Jm r n v
theorem Hy:∀ (fs:List (Nat × Val)) (n k:Nat) (v:Val),k≠n -> (Rh fs n v).lookup k=fs.lookup k
  | [],n,k,v,h=>by
    have:(k == n)=false:=by simpa using h
    show List.lookup k [(n,v)]=none
    rw [List.lookup_cons,this];rfl
  | (m,u) :: r,n,k,v,h=>by
    rw [L6]
    by_cases e:m=n
    · rw [if_pos e,e,List.lookup_cons,List.lookup_cons]
      have:(k == n)=false:=by simpa using h
      rw [this]
    · rw [if_neg e,List.lookup_cons,List.lookup_cons,Hy r n k v h]
theorem Qj (CB:ClsBase cx N) (R:Rel cx H ρ s) {i c n:Nat} {fs:List (Nat × Val)} {p:Addr × Addr} {y:Str} {m:Val} {v:Value} (hH:H[i]?=some (.inst c fs)) (hρ:ρ[i]?=some p) (hy:cx.attrs[n]?=some y) (vr:VR cx ρ s.heap m v) {Q:Unit -> Shared -> Prop} {E:Value -> Shared -> Prop}
    (k:∀ s',Full ρ s.heap ρ s'.heap -> Rel cx (H.set i (.inst c (Rh fs n m))) ρ s' -> Q () s'):wpAny (model cx.prog cx.w) A (setAttr (.ref p.1) y v) Q E s:=by
  refine Af fun G kG=>?_
  refine ex3 (R.instAt hH hρ) fun C o mA zz=>Zi zz fun k0 kc e k1 k2 k3 k4 nn f g=>?_
  refine Vk ((CB.cls c C kc k0).is) fun nm q Nn bs sn sub col dd q0 q1 q2 q3 q5 mN zz=>Nj zz fun hC hN h1 h2 h3 h4 h5=>?_
  refine kG ?_
  have hxC:p.1≠C:=fun w=>by have:=(R.new p (zF hρ)).1;rw [w,hC] at this;cases this
  refine store_attr F.store_object (R.base _ _ hC) (hN.keeps R.base) h3 (h4 n y hy).1 (h4 n y hy).2 hxC (N3 e k1 k2 k3 k4 nn) (fun h' tk' I' hk hsame=>?_)
    (ns:=cx.attrs) (fun z hz=>by refine ex2 (g z hz) fun j _ zz=>Ac zz fun hj _=>?_;exact zF hj) CB.few
  refine Af fun G kG=>?_
  refine ex1 (hsame o e) fun o₁ zz=>Fo zz fun e1 c1 d1 _ dd1=>?_
  refine ex1 I' fun o₂ zz=>Cm zz fun e2 c2 n2 hd2=>?_
  refine kG ?_
  rw [e1] at e2;cases e2
  have nn':h'.Ns1 p.2 (fun z=>if z=y then some v else mA z):=by
    rcases hd2 with ⟨w,_⟩ | ⟨b,w,_,w2⟩
    · rw [dd1 _ k3] at w;cases w
    · rw [dd1 _ k3] at w;cases w;exact w2
  have keep:∀ b ob,s.heap.get? b=some ob -> b≠p.1 -> b≠p.2 -> h'.get? b=some ob:=fun b ob eb w1 w2=>hk b ob w1 (fun o₀ dx f1 f2=>by rw [e] at f1;cases f1;rw [k3] at f2;cases f2;exact w2) eb
  have lv:E1 s.heap h':=fun b ob eb=>by
    by_cases w1:b=p.1
    · rw [w1];exact ⟨o₁,e1⟩
    · by_cases w2:b=p.2
      · refine ex3 nn' fun on _ _ zz=>Ac zz fun en _=>?_;rw [w2];exact ⟨on,en⟩
      · exact ⟨ob,keep b ob eb w1 w2⟩
  have own:∀ b,¬ Av ρ b -> b≠p.1 /\ b≠p.2:=fun b n=>⟨fun e=>n ⟨p,zF hρ,.inl e⟩,fun e=>n ⟨p,zF hρ,.inr e⟩⟩
  have F:Full ρ s.heap ρ h':=⟨Jh.refl _ _,fun b ob eb n=>⟨ob,keep b ob eb (own b n).1 (own b n).2,.refl ob⟩,lv⟩
  obtain ⟨_,R'⟩:=R.set (tk:=tk') (o:=.inst c (Rh fs n m)) hρ keep lv (by
    obtain ⟨p1,p2⟩:=p
    refine .inst k0 kc e1 (c1.trans k1) n2 (dd1 _ k3) k4 nn' (fun j u hj=>?_) (fun z hz=>?_)
    · by_cases w:j=n
      · subst w
        rw [Jm] at hj;cases hj
        exact ⟨y,v,hy,by simp,vr.step F.step⟩
      · rw [Hy _ _ _ _ w] at hj
        refine ex2 (f j u hj) fun y' x zz=>An zz fun hy' hx vx=>?_
        have ne:y'≠y:=fun q=>w (CB.inj j n y (q▸hy') hy)
        exact ⟨y',x,hy',by simp [ne,hx],vx.step F.step⟩
    · by_cases w:z=y
      · exact ⟨n,m,w▸hy,Jm _ _ _⟩
      · simp only [w,if_false] at hz
        refine ex2 (g z hz) fun j u zz=>Ac zz fun hj hu=>?_
        have ne:j≠n:=fun q=>w (by rw [q,hy] at hj;cases hj;rfl)
        exact ⟨j,u,hj,by rw [Hy _ _ _ _ ne];exact hu⟩)
  exact k _ F R'
theorem J6 {o:Expr} {name:Str} {apos pos:Pos} {args:List Expr} {Q:Value -> Shared -> Prop} {E:Value -> Shared -> Prop} (hs:Cn o=true) (hp:B7 env args) (hz:args.length <= 20) (hline:(apos.endLine == pos.line)=true)
    (h:wpAny (model cx.prog cx.w) A (eval o env) (fun ov s₁=>∀ pl,wpAny (model cx.prog cx.w) A (getMethod ov name pl) (fun r s₂=>wpAny (model cx.prog cx.w) A (callWith pos r.1 r.2 (args.map fun e=>(false,eval e env)) []) Q E s₂) E s₁) E s) :
    wpAny (model cx.prog cx.w) A (eval (.Call (.Attribute o name apos) args [] pos) env) Q E s:=by
  rw [arm_eval_Call,Dn hs]
  refine zB (zE h (fun ov s₁ h₁=>?_) fun _ _ e=>e)
  refine zB (wpAny_standAt ?_)
  have hform:methodCallForm (args.length+([]:List Keyword).length) (backTo pos (starEach args env)) (backToKw pos (keywordEach [] env))=true:=Hg hp hz
  have hpos:methodCallPos true o env apos pos=pure pos:=by unfold methodCallPos;simp [hline]
  unfold methodCall
  rw [hform,Ap pos hp]
  refine zB (wpAny_holding (zE (h₁ _) (fun r s₂ h₂=>?_) fun _ _ e=>e))
  exact zB (wpAny_of_eq hpos h₂)
theorem Qk {T:Tab} {v:Val} {m k:Nat} (h:(match v with | .loc i=>(match H[i]? with | some (.inst c _)=>T.meth c m | _=>none) | _=>none)=some k):∃ i c fs,v=.loc i /\ H[i]?=some (.inst c fs) /\ T.meth c m=some k:=by
  split at h
  · split at h
    · exact ⟨_,_,_,rfl,by assumption,h⟩
    · exact Ae h
  · exact Ae h
theorem S4 (CB:ClsBase cx N) (hΦ:Hh cx Φ d) (room:Room A d) (hfr:A.frames=some l) {a:ME} {m:Nat} {es:MEs} {o:Expr} {y:Str} {apos pos:Pos} {xs:List Expr} (hm:Dz N.meths y m=true) (hes:ckEs N sc ns es xs=true) (hz:xs.length <= 20) (hs:Cn o=true) (hline:(apos.endLine == pos.line)=true)
    (x:EOk cx A ((Amb.env cx env sc ns Γ).and (Amb.frames cx l)) Φ env Γ a o) (y':Sim cx A ((Amb.env cx env sc ns Γ).and (Amb.frames cx l)) (spliced (xs.map fun e=>(false,eval e env))) (evalEs cx.T Φ es Γ) (Amb.vrs cx)) :
    EOk cx A ((Amb.env cx env sc ns Γ).and (Amb.frames cx l)) Φ env Γ (.umeth a m es) (.Call (.Attribute o y apos) xs [] pos):=by
  refine EOk.of ?_ rfl
  intro H ρ s R p
  first | rw [Je] | rw [Mb] | rw [Hc] | rw [Rl] | rw [Fq] | rw [Rm]
  refine Bf.bindK (K':=fun Q E s=>wpAny (model cx.prog cx.w) A (eval (.Call (.Attribute o y apos) xs [] pos) env) Q E s) (K:=fun ov Q E s=>∀ pl,wpAny (model cx.prog cx.w) A (getMethod ov y pl) (fun r s₂=>wpAny (model cx.prog cx.w) A (callWith pos r.1 r.2 (xs.map fun e=>(false,eval e env)) []) Q E s₂) E s) (x.val H ρ s R p) ?_ ?_
    (fun Q E h=>J6 hs (Cb hes) hz hline h)
  · intro b ov H1 ρ1 s1 _ F1 R1 vr
    have vr':VR cx ρ1 s1.heap b ov:=vr
    refine Gm.lookK fun k hk=>?_
    refine Af fun G kG=>?_
    refine ex3 (Qk hk) fun i c fs zz=>An zz fun zr3 hi hk'=>?_;subst zr3
    refine ex1 vr'.loc_inv fun p1 zz=>Ac zz fun hp1 zr2=>?_;subst zr2
    refine ex3 (R1.instAt hi hp1) fun C ob mA zz=>Zi zz fun k0 kc e k1 k2 k3 k4 nn f g=>?_
    refine Vk ((CB.cls c C kc k0).is) fun nm q Nn bs sn sub col dd q0 q1 q2 q3 q5 mN zz=>Nj zz fun hC hN h1 h2 h3 h4 h5=>?_
    refine ex3 (h5 y m k (Co hm) hk') fun fa fo fd zz=>Nj zz fun hfa hmN hfo hfc hfd hna zz=>ex1 zz fun r hr=>?_
    refine kG ?_
    have hmA:mA y=none:=by
      cases w:mA y with
      | none=>rfl
      | some z=>refine ex2 (g y (by rw [w];exact fun q=>nomatch q)) fun j _ zz=>Ac zz fun hj _=>?_;exact absurd hj (hna j)
    refine Gm.mono (Fr (f:=.ref fa) (K:=fun vs Q E s=>(s.heap.get? fa=some fo /\ fo.data=.func fd) /\ wpAny (model cx.prog cx.w) A (call (.ref fa) (.ref p1.1 :: vs)) Q E s) (fun e=>E5 (e▸hes)) R1 (y' H1 ρ1 s1 R1 (((Amb.env cx env sc ns Γ).and (Amb.frames cx l)).st _ _ _ _ p F1)) ?_ ?_) ?_
    · intro ms vs H2 ρ2 s2 _ F2 R2 vrs
      exact Gm.andK ⟨R2.base _ _ hfo,hfd⟩ (hΦ k fa (.loc i :: ms) (.ref p1.1 :: vs) A l hfa room.toF hfr H2 ρ2 s2 R2 ⟨.cons (VR.step F2.step vr) vrs,(p.2.full F1).full F2⟩)
    · exact fun vs Q E Q' E' s h k1 k2=>⟨h.1,zE h.2 k1 k2⟩
    · intro Q E h pl
      refine method_of (R1.base _ _ hC) (hN.keeps R1.base) h1 h2 hmN (R1.base _ _ hfo) hfc hr (N3 e k1 k2 k3 k4 nn) hmA ?_
      exact Calls.callWith_function (o:=fo) (fd:=fd) (zE h (fun b s₁ h₁=>by rw [h₁.1];exact h₁.2) fun _ _ q=>q)
  · exact fun ov Q E Q' E' s h k1 k2 pl=>zE (h pl) (fun r s₂ h₂=>zE h₂ k1 k2) k2
theorem callWith_own {nm q:Str} {C Nn:Addr} {bs:List Value} {sn:List Str} {sub:List Value} {col:Option Bool} {dd:Option Addr} {k0 k1 k2 k3 k5:Option Value} {pos:Pos} {args:List (Bool × Sem Value)} {Q:Value -> Shared -> Prop} {E:Value -> Shared -> Prop} (hplain:args.any (·.1)=false)
    (h:wpAny (model cx.prog cx.w) A (evalArgs (.ref C) true args []) (fun as s₁=>as.kw=[] /\ s₁.heap.get? C=some (excClassObj nm q C Nn bs [.type "object"] true sn sub false col dd k0 k1 k2 k3 k5 "object.__new__") /\ wpAny (model cx.prog cx.w) A (call (.ref C) as.pos) Q E s₁) E s) :
    wpAny (model cx.prog cx.w) A (callWith pos (.ref C) [] args []) Q E s:=by
  unfold callWith
  refine zB (wpAny_holding (zE h (fun as s₁ h₁=>?_) fun _ _ x=>x))
  refine An h₁ fun e hC hc=>?_
  obtain ⟨ps,kw⟩:=as
  dsimp only at e hc
  subst e
  obtain ⟨hh,g,dr,t,os⟩:=s₁
  have f1:=tc_lookup
  have hT:(⟨hh,g,dr,t,os⟩:Shared).TypeIs (.ref C) "type":=⟨_,hC,rfl⟩
  refine zB (wpAny_standAt ?_)
  unfold keeperOf specialOf
  repeat (any_goals (first | assumption | with_reducible refine wpAny_loadPart_at hC ?_ | with_reducible refine wpAny_load' hC ?_ | wp_step))
  rw [if_pos (by rfl),hplain]
  exact zB (zE hc (fun r s' hr=>zB (wpAny_holding (wpAny_point (zH hr)))) fun _ _ x=>x)
theorem Room.made {C:Addr} {vs:List Value} (r:Room A d):RoomF (A.under (.builtin "type.__call__" ⟨.ref C :: vs,[]⟩)) d:=by
  refine ⟨r.hh,?_,?_⟩
  · show A.depth+1+5 * d+147 < recursionLimit
    have:=r.depth;exact Ajk this
  · show A.units+1+20 * d+90 < cLine
    have:=r.units;exact Ajl this
theorem S5 {T:Tab} {c k:Nat} {ms:List Val} (h:T.meth c 0=some k):P6 T Φ c ms H=(match Φ k (.loc H.length :: ms) (H++[.inst c []]) with
    | .ok r H'=>(match r with | .none=>Res.ok (.loc H.length) H' | _=>.bad)
    | .exc e H'=>.exc e H'
    | .bad=>.bad):=by
  unfold P6
  rw [h]
  show M.bnd _ _ _=_
  rw [Dt (show M.alloc (.inst c []) H=.ok (.loc H.length) (H++[.inst c []]) from rfl)]
  cases e:Φ k (.loc H.length :: ms) (H++[.inst c []]) with
  | bad=>rw [C9 e]
  | exc x H'=>rw [E2 e]
  | ok r H'=>rw [Dt e];cases r <;> rfl
theorem Wm (CB:ClsBase cx N) (hΦ:Hh cx Φ d) (room:Room A d) (hfr:A.frames=some l) {c:Nat} {C:Addr} {ms:List Val} {vs:List Value} (hc:cx.cls[c]?=some (.ref C)) (R:Rel cx H ρ s) (vrs:VRs cx ρ s.heap ms vs) (fr:Aw cx l ρ s.heap) :
    Gm cx (P6 cx.T Φ c ms H) (fun Q E s=>wpAny (model cx.prog cx.w) A (call (.ref C) vs) Q E s) (Amb.vr cx) ρ s:=by
  cases hk:cx.T.meth c 0 with
  | none=>unfold P6;rw [hk];trivial
  | some k =>
    have hks:(cx.T.meth c 0).isSome=true:=by rw [hk];rfl
    refine Af fun G kG=>?_
    refine Vk ((CB.cls c C hc hks).is) fun nm q Nn bs sn sub col dd q0 q1 q2 q3 q5 mN zz=>Nj zz fun hC hN h1 h2 h3 h4 h5=>?_
    refine ex3 (h5 _ 0 k CB.init hk) fun fa fo fd zz=>Nj zz fun hfa hmN hfo hfc hfd hna _=>?_
    refine kG ?_
    rw [S5 hk]
    have main:∀ (Q:Value -> Shared -> Prop) (E:Value -> Shared -> Prop),(∀ h' x dx,Heap.MadeObj s.heap h' x dx C -> wpAny (model cx.prog cx.w) (A.under (.builtin "type.__call__" ⟨.ref C :: vs,[]⟩)) (call (.ref fa) (.ref x :: vs)) (fun r s'=>r=.none /\ Q (.ref x) s') E { s with heap:=h' }) -> wpAny (model cx.prog cx.w) A (call (.ref C) vs) Q E s:=by
      intro Q E hq
      exact wpAny_call_obj_init F.objNew (R.base _ _ hC) (hN.keeps R.base) hmN (R.base _ _ hfo) hfc hq
    have D0:∀ h' x dx,Heap.MadeObj s.heap h' x dx C -> Full ρ s.heap (ρ++[(x,dx)]) h' /\ Bf cx (A.under (.builtin "type.__call__" ⟨.ref C :: vs,[]⟩)) (Φ k (.loc H.length :: ms) (H++[.inst c []])) (call (.ref fa) (.ref x :: vs)) (Amb.vr cx) (ρ++[(x,dx)]) { s with heap:=h' }:=by
      intro h' x dx mo
      refine Af fun G kG=>?_
      refine ex1 mo.inst fun o zz=>Cm zz fun ho oc od odd=>?_
      have hdx:=mo.dict o ho
      have nn:dx≠x /\ h'.Ns1 dx (fun _=>none):=by
        rcases odd with ⟨w,_⟩ | ⟨b,w,w1,w2⟩
        · rw [hdx] at w;cases w
        · rw [hdx] at w;cases w;exact ⟨w1,w2⟩
      obtain ⟨F,R'⟩:=R.alloc (tk:=s.toks) (o:=.inst c []) (p:=(x,dx)) mo.keeps ⟨mo.newX,mo.newD⟩ (.inst hks hc ho oc od hdx nn.1 nn.2 (fun n v hv=>by cases hv) (fun y hy=>absurd rfl hy))
      refine kG ?_
      have vx:VR cx (ρ++[(x,dx)]) h' (.loc H.length) (.ref x):=VR.loc (p:=(x,dx)) (by rw [R.len,List.getElem?_append_right (zI _)];simp)
      exact ⟨F,hΦ k fa (.loc H.length :: ms) (.ref x :: vs) _ l hfa room.made hfr _ _ _ R' ⟨.cons vx (vrs.step F.step),fr.full F⟩⟩
    cases hr:Φ k (.loc H.length :: ms) (H++[.inst c []]) with
    | bad=>trivial
    | exc e H' =>
      refine main _ _ fun h' x dx mo=>?_
      obtain ⟨F,sm⟩:=D0 h' x dx mo
      rw [hr] at sm
      exact zE sm (fun _ _ q=>q.elim) fun ex s' ⟨ρ',F',R',fl⟩=>⟨ρ',F.trans F',R',fl.older F.live⟩
    | ok r H' =>
      cases r with
      | none =>
        refine main _ _ fun h' x dx mo=>?_
        obtain ⟨F,sm⟩:=D0 h' x dx mo
        rw [hr] at sm
        refine zE sm (fun r' s' ⟨ρ',F',R',vr⟩=>⟨VR.none_inv vr,ρ',F.trans F',R',?_⟩) fun _ _ q=>q.elim
        exact VR.loc (p:=(x,dx)) (F'.grow.get (by rw [R.len,List.getElem?_append_right (zI _)];simp))
      | _=>trivial
theorem Aay (B:Base cx N) (hΦ:Hh cx Φ d) (room:Room A d) (hfr:A.frames=some l) {c:Nat} {es:MEs} {x:Str} {np pos:Pos} {xs:List Expr} (hg:Bs sc x=true) (hk:Dz N.clss x c=true) (hes:ckEs N sc ns es xs=true)
    (y':Sim cx A ((Amb.env cx env sc ns Γ).and (Amb.frames cx l)) (spliced (xs.map fun e=>(false,eval e env))) (evalEs cx.T Φ es Γ) (Amb.vrs cx)) :
    EOk cx A ((Amb.env cx env sc ns Γ).and (Amb.frames cx l)) Φ env Γ (.new c es) (.Call (.Name x np) xs [] pos):=by
  refine EOk.of ?_ rfl
  intro H ρ s R p
  first | rw [Je] | rw [Mb] | rw [Hc] | rw [Rl] | rw [Fq] | rw [Rm]
  cases hm:cx.T.meth c 0 with
  | none=>trivial
  | some k =>
    have hks:(cx.T.meth c 0).isSome=true:=by rw [hm];rfl
    refine Af fun G kG=>?_
    refine ex2 B.ns fun mg mb zz=>Lz zz fun ng nb _ _ q _=>?_
    refine ex1 (q x c (Co hk)) fun Cv zz=>Ac zz fun hC hx=>?_
    obtain ⟨C,rfl⟩:=B.cls.ref c Cv hC hks
    refine Vk ((B.cls.cls c C hC hks).is) fun nm qn Nn bs sn sub col dd q0 q1 q2 q3 q5 mN zz=>Ac zz fun hCo _=>?_
    refine kG ?_
    refine Gm.mono (Fr (f:=.ref C) (K:=fun vs Q E s=>s.heap.get? C=some (excClassObj nm qn C Nn bs [.type "object"] true sn sub false col dd q0 q1 q2 q3 q5 "object.__new__") /\ wpAny (model cx.prog cx.w) A (call (.ref C) vs) Q E s) (fun e=>E5 (e▸hes)) R (y' H ρ s R p) ?_ ?_) ?_
    · intro ms vs H1 ρ1 s1 _ F1 R1 vrs
      exact Gm.andK (R1.base _ _ hCo) (Wm B.cls hΦ room hfr hC R1 vrs (p.2.full F1))
    · exact fun vs Q E Q' E' s h k1 k2=>⟨h.1,zE h.2 k1 k2⟩
    · intro Q E h
      refine wpAny_Call_ofName (wp_glob R p.1.st hg ng nb hx ?_)
      rw [Ap pos (Cb hes)]
      exact callWith_own (Di _) (zE h (fun b s₁ h₁=>by refine An h₁ fun h1 h2 h3=>?_;exact ⟨h1,h2,h3⟩) fun _ _ q=>q)
end
section
variable {cx:Cx} {N:Names} {A:Around} {Φ:Funs} {l:List Env} {d:Nat}
structure Ground (cx:Cx) (N:Names) (A:Around) (Φ:Funs) (l:List Env) (d:Nat):Prop where
  base:Base cx N
  room:Room A d
  frames:A.frames=some l
  funs:Hh cx Φ d
  defs:∀ (f:Nat) (a:Addr),cx.fns[f]?=some a -> ∃ g,cx.T.funs[f]?=some g
theorem Ground.u (G:Ground cx N A Φ l d):A.units+100 < cLine:=by have:=G.room.units;exact Ajm this
noncomputable def C3 (ns:List (Option Str)):Prop:=∀ (i j:Nat) (y:Str),ns[i]?=some (some y) -> ns[j]?=some (some y) -> i=j
theorem Yp {m:BM} {ms:List Val} {xs:List Expr} (h1:(Hd m).2=xs.length) (h2:ms.length=xs.length):ms.length=(Hd m).2:=by rw [h1,h2]
theorem Yq (hu:A.units+100 < cLine) (m:BM) (b:Val) (v:Value) (ms:List Val) (vs:List Value) (hl:ms.length=(Hd m).2):Sim cx A ((Amb.vr cx b v).and (Amb.vrs cx ms vs)) (call (.builtin (Vh m).2) (v :: vs)) (bmV m b ms) (Amb.vr cx):=by
  cases m with
  | append=>exact R9 b v ms vs hl
  | pop=>exact Ads b v ms vs hl
  | rstrip=>exact Sa b v ms vs hl
  | get2=>exact Z9 hu b v ms vs hl
set_option maxHeartbeats 4000000 in
mutual
theorem eok (G:Ground cx N A Φ l d):∀ (m:ME) (e:Expr) (env:Env) (sc:Scope) (ns:List (Option Str)) (Γ:Env'),ck N sc ns m e=true -> C3 ns -> Γ.length=ns.length -> EOk cx A ((Amb.env cx env sc ns Γ).and (Amb.frames cx l)) Φ env Γ m e
  | .none,e,env,sc,ns,Γ,h,_,_=>by
    refine ex2 (O2 h) fun k pos hr0=>?_;refine Eq.symm hr0▸?_
    refine EOk.of (fun H ρ s R p=>?_) rfl
    exact At R fun Q E k=>wpAny_Constant_none (k _ s.toks .none)
  | .bool b,e,env,sc,ns,Γ,h,_,_=>by
    refine ex2 (O3 h) fun k pos zr2=>?_;subst zr2
    refine EOk.of (fun H ρ s R p=>?_) rfl
    exact At R fun Q E k=>wpAny_Constant_bool (k _ s.toks (.bool b))
  | .int i,e,env,sc,ns,Γ,h,_,_=>by
    refine ex2 (Sb h) fun k pos zr2=>?_;subst zr2
    refine EOk.of (fun H ρ s R p=>?_) rfl
    exact At R fun Q E k=>wpAny_Constant_int (k _ _ (.int _ _))
  | .str v,e,env,sc,ns,Γ,h,_,_=>by
    refine ex2 (Sc h) fun k pos zz=>Ac zz fun hr3 z=>?_;refine Eq.symm hr3▸?_
    refine EOk.of (fun H ρ s R p=>?_) rfl
    exact At R fun Q E k=>wpAny_Constant_str (k _ _ (.str _ _ (by rw [sizeLine_eq];exact o22 z)))
  | .glob k,e,env,sc,ns,Γ,h,_,_=>by
    refine ex2 (V7 h) fun x pos zz=>An zz fun zr2 h1 h2=>?_;subst zr2
    exact EOk.of (Vv G.base h1 h2 Φ).and1 rfl
  | .var i,e,env,sc,ns,Γ,h,_,_=>by
    refine ex2 (Sd h) fun x pos zz=>Ac zz fun zr2 h1=>?_;subst zr2
    exact EOk.of (Rz h1 Φ).and1 rfl
  | .bin op a b,e,env,sc,ns,Γ,h,ha,hΓ=>by
    refine ex4 (Se h) fun x o y pos zz=>Cm zz fun hr6 h1 h2 h3=>?_;refine Eq.symm hr6▸?_
    exact Ss h1 (eok G a x env sc ns Γ h2 ha hΓ) (eok G b y env sc ns Γ h3 ha hΓ)
  | .neg a,e,env,sc,ns,Γ,h,ha,hΓ=>by
    refine ex2 (Aaa h) fun x pos zz=>Ac zz fun zr2 h1=>?_;subst zr2
    exact Aar (eok G a x env sc ns Γ h1 ha hΓ)
  | .not a,e,env,sc,ns,Γ,h,ha,hΓ=>by
    refine ex2 (Aab h) fun x pos zz=>Ac zz fun zr2 h1=>?_;subst zr2
    exact Aas (eok G a x env sc ns Γ h1 ha hΓ)
  | .and a b,e,env,sc,ns,Γ,h,ha,hΓ=>by
    refine ex4 (Aac h) fun x y rest pos zz=>An zz fun zr4 h1 h2=>?_;subst zr4
    refine Aau (eok G a x env sc ns Γ h1 ha hΓ) ?_
    rcases h2 with ⟨rfl,h2⟩ | h2
    · exact Vi.one (eok G b y env sc ns Γ h2 ha hΓ)
    · exact Vi.more (eok G b _ env sc ns Γ h2 ha hΓ)
  | .or a b,e,env,sc,ns,Γ,h,ha,hΓ=>by
    refine ex4 (Adu h) fun x y rest pos zz=>An zz fun zr4 h1 h2=>?_;subst zr4
    refine Ad1 (eok G a x env sc ns Γ h1 ha hΓ) ?_
    rcases h2 with ⟨rfl,h2⟩ | h2
    · exact Vi.one (eok G b y env sc ns Γ h2 ha hΓ)
    · exact Vi.more (eok G b _ env sc ns Γ h2 ha hΓ)
  | .cmp op a b,e,env,sc,ns,Γ,h,ha,hΓ=>by
    refine ex3 (Sf h) fun x y pos zz=>Cm zz fun hr11 h1 h2 h3=>?_;refine Eq.symm hr11▸?_
    exact Su G.u h3 (eok G a x env sc ns Γ h1 ha hΓ) (eok G b y env sc ns Γ h2 ha hΓ)
  | .cmp2 op1 op2 a b c,e,env,sc,ns,Γ,h,ha,hΓ=>by
    refine ex4 (V8 h) fun x y z pos zz=>Fo zz fun hr12 h1 h2 h3 h4=>?_;refine Eq.symm hr12▸?_
    exact Wh G.u h4 (eok G a x env sc ns Γ h1 ha hΓ) (eok G b y env sc ns Γ h2 ha hΓ) (eok G c z env sc ns Γ h3 ha hΓ)
  | .sub a i,e,env,sc,ns,Γ,h,ha,hΓ=>by
    refine ex3 (Aad h) fun x y pos zz=>An zz fun hr13 h1 h2=>?_;refine Eq.symm hr13▸?_
    exact Aaw G.u (eok G a x env sc ns Γ h1 ha hΓ) (eok G i y env sc ns Γ h2 ha hΓ)
  | .tup es,e,env,sc,ns,Γ,h,ha,hΓ=>by
    refine ex3 (Aae h) fun xs k pos zz=>An zz fun hr15 h1 h2=>?_;refine Eq.symm hr15▸?_
    exact EOk.of (Aag (Cb h1) h2 (fun _ _ _ e=>Ch h1 e) (eoks G es xs env sc ns Γ h1 ha hΓ)) rfl
  | .list es,e,env,sc,ns,Γ,h,ha,hΓ=>by
    refine ex2 (V9 h) fun xs pos zz=>An zz fun zr2 h1 h2=>?_;subst zr2
    exact EOk.of (Wc (Cb h1) h2 (fun _ _ _ e=>Ch h1 e) (eoks G es xs env sc ns Γ h1 ha hΓ)) rfl
  | .dict,e,env,sc,ns,Γ,h,ha,hΓ=>by
    obtain ⟨pos,hr17⟩:=Wa h;refine Eq.symm hr17▸?_
    exact EOk.of V6 rfl
  | .attr a n,e,env,sc,ns,Γ,h,ha,hΓ=>by
    refine ex3 (Wb h) fun x y pos zz=>Cm zz fun zr3 h1 h2 h3=>?_;subst zr3
    exact Wl G.base.cls h2 h3 (eok G a x env sc ns Γ h1 ha hΓ)
  | .call f es,e,env,sc,ns,Γ,h,ha,hΓ=>by
    refine ex4 (O4 h) fun x np xs pos zz=>Fo zz fun zr4 h1 h2 h3 h4=>?_;subst zr4
    refine EOk.of ?_ rfl
    refine ex2 G.base.ns fun mg mb zz=>Cm zz fun ng nb q _=>?_
    refine ex1 (q x f (Co h2)) fun a zz=>Ac zz fun ha' _=>?_
    exact Mj G.base (fun a args vals h=>G.funs f a args vals A l h G.room.toF G.frames) h1 h2 (G.defs f a ha') h3 (eoks G es xs env sc ns Γ h3 ha hΓ)
  | .new c es,e,env,sc,ns,Γ,h,ha,hΓ=>by
    refine ex4 (Aaf h) fun x np xs pos zz=>Fo zz fun zr4 h1 h2 h3 h4=>?_;subst zr4
    exact Aay G.base G.funs G.room G.frames h1 h2 h3 (eoks G es xs env sc ns Γ h3 ha hΓ)
  | .umeth a m es,e,env,sc,ns,Γ,h,ha,hΓ=>by
    refine ex5 (Sg h) fun o y apos xs pos zz=>Nj zz fun hr21 h1 h2 h3 h4 h5 h6=>?_;refine Eq.symm hr21▸?_
    exact S4 G.base.cls G.funs G.room G.frames h2 h3 h4 h5 h6 (eok G a o env sc ns Γ h1 ha hΓ) (eoks G es xs env sc ns Γ h3 ha hΓ)
  | .bf f es,e,env,sc,ns,Γ,h,ha,hΓ=>by
    refine ex4 (Adv h) fun x np xs pos zz=>Fo zz fun zr4 h1 h2 h3 h4=>?_;subst zr4
    exact Ad3 G.base G.room.hh G.u h1 h2 h3 h4 (eoks G es xs env sc ns Γ h4 ha hΓ)
  | .bm a m es,e,env,sc,ns,Γ,h,ha,hΓ=>by
    refine ex5 (Yl h) fun o y apos xs pos zz=>Nj zz fun zr5 h1 zr7 h3 h4 h5 h6=>?_;subst zr5;subst zr7
    refine EOk.of ?_ rfl
    exact Yk h5 (Cb h4) (by rw [<- h3];cases m <;> decide) (fun e=>E5 (e▸h4)) h6 (eok G a o env sc ns Γ h1 ha hΓ).val (eoks G es xs env sc ns Γ h4 ha hΓ)
      (fun b v ms vs hl=>Yq G.u m b v ms vs (Yp h3 hl)) (fun _ _ _ e=>Ch h4 e)
  | .isinst a t,e,env,sc,ns,Γ,h,ha,hΓ=>by
    refine ex6 (Kf h) fun f np x y yp pos zz=>Lz zz fun hr23 h1 h2 h3 h4 h5=>?_;refine Eq.symm hr23▸?_
    have z:=eok G a x env sc ns Γ h4 ha hΓ
    cases t with
    | cls c=>exact Pb G.base h1 h2 h3 h5 (A7 h4) z
    | int=>exact Em G.base (fun c=>by intro q;cases q) h1 h2 h3 (of_decide_eq_true h5) (A7 h4) z
    | bool=>exact Em G.base (fun c=>by intro q;cases q) h1 h2 h3 (of_decide_eq_true h5) (A7 h4) z
    | str=>exact Em G.base (fun c=>by intro q;cases q) h1 h2 h3 (of_decide_eq_true h5) (A7 h4) z
    | tuple=>exact Em G.base (fun c=>by intro q;cases q) h1 h2 h3 (of_decide_eq_true h5) (A7 h4) z
    | list=>exact Em G.base (fun c=>by intro q;cases q) h1 h2 h3 (of_decide_eq_true h5) (A7 h4) z
  | .comp elt it cond,e,env,sc,ns,Γ,h,ha,hΓ=>by
    refine ex7 (O5 h) fun el x px i ifs csc pos zz=>Lz zz fun hr24 h1 h2 h3 h4 h5=>?_;refine Eq.symm hr24▸?_
    exact Wk G.room.hh h2 h3 ha hΓ ⟨fun cenv Γ' hΓ'=>econd G cond ifs cenv csc _ Γ' h5 (Fv ha (By h3).2.1) hΓ',fun cenv Γ' hΓ'=>(eok G elt el cenv csc _ Γ' h4 (Fv ha (By h3).2.1) hΓ').val⟩ (eok G it i env sc ns Γ h1 ha hΓ)
theorem Ape (G:Ground cx N A Φ l d):∀ (o:MEo) (x:Option Expr) (env:Env) (sc:Scope) (ns:List (Option Str)) (Γ:Env'),ckO N sc ns o x=true -> C3 ns -> Γ.length=ns.length -> Sim cx A ((Amb.env cx env sc ns Γ).and (Amb.frames cx l)) (evalPart x env) (Zl cx.T Φ o Γ) (Amb.vr cx)
  | .none,none,env,sc,ns,Γ,_,_,_=>by
    intro H ρ s R p
    exact zH ⟨ρ,Full.refl _ _,R,.none⟩
  | .some e,some x,env,sc,ns,Γ,h,ha,hΓ=>by
    exact (eok G e x env sc ns Γ h ha hΓ).val
  | .none,some _,env,sc,ns,Γ,h,ha,hΓ=>by cases (show false=true from h)
  | .some _,none,env,sc,ns,Γ,h,ha,hΓ=>by cases (show false=true from h)
theorem econd (G:Ground cx N A Φ l d):∀ (cond:MEo) (ifs:List Expr) (cenv:Env) (csc:Scope) (ns':List (Option Str)) (Γ':Env'),ckC N csc ns' cond ifs=true -> C3 ns' -> Γ'.length=ns'.length ->
    Sim cx A ((Amb.env cx cenv csc ns' Γ').and (Amb.frames cx l)) (forIn ifs true fun c r=>if r=true then do let ok <- isTrue c cenv (eval c cenv);pure (ForInStep.yield ok) else pure (ForInStep.yield r)) (evalC cx.T Φ cond Γ') BV
  | .none,[],cenv,csc,ns',Γ',h2,ha,hΓ=>by
    intro H ρ s R p
    exact wpAny_tests_nil ⟨ρ,Full.refl _ _,R,rfl⟩
  | .some c,[i],cenv,csc,ns',Γ',h2,ha,hΓ=>by
    exact (eok G c i cenv csc ns' Γ' h2 ha hΓ).tru.pre fun Q E s h=>wpAny_tests_one h
  | .none,_ :: _,cenv,csc,ns',Γ',h2,ha,hΓ=>by cases (show false=true from h2)
  | .some _,[],cenv,csc,ns',Γ',h2,ha,hΓ=>by cases (show false=true from h2)
  | .some _,_ :: _ :: _,cenv,csc,ns',Γ',h2,ha,hΓ=>by cases (show false=true from h2)
theorem eoks (G:Ground cx N A Φ l d):∀ (ms:MEs) (xs:List Expr) (env:Env) (sc:Scope) (ns:List (Option Str)) (Γ:Env'),ckEs N sc ns ms xs=true -> C3 ns -> Γ.length=ns.length ->
    Sim cx A ((Amb.env cx env sc ns Γ).and (Amb.frames cx l)) (spliced (xs.map fun e=>(false,eval e env))) (evalEs cx.T Φ ms Γ) (Amb.vrs cx)
  | .nil,[],env,sc,ns,Γ,h,ha,hΓ=>Sj
  | .nil,_ :: _,env,sc,ns,Γ,h,ha,hΓ=>by cases (show false=true from h)
  | .cons _ _,[],env,sc,ns,Γ,h,ha,hΓ=>by cases (show false=true from h)
  | .cons m ms,x :: xs,env,sc,ns,Γ,h,ha,hΓ=>by
    have h:=And.intro (an1 h) (an2 h)
    exact O6 (eok G m x env sc ns Γ h.1 ha hΓ).val (eoks G ms xs env sc ns Γ h.2 ha hΓ)
end
end
section
variable {cx:Cx} {N:Names} {A:Around} {Φ:Funs} {l:List Env} {d:Nat} {env:Env} {sc:Scope} {ns:List (Option Str)} {Γ:Env'} {H:Hp} {ρ ρ':Rho} {s:Shared}
noncomputable def Bz (cx:Cx) (env:Env) (sc:Scope) (ns:List (Option Str)) (r:ResS) (T:(Flow -> Shared -> Prop) -> (Value -> Shared -> Prop) -> Shared -> Prop) (ρ:Rho) (s:Shared):Prop :=
  match r with
  | .bad=>True
  | .next Γ' H'=>T (fun f s'=>f=.next /\ ∃ ρ',FullS env ρ s.heap ρ' s'.heap /\ Rel cx H' ρ' s' /\ EnvOk cx env sc ns Γ' ρ' s'.heap) (fun _ _=>False) s
  | .ret v H'=>T (fun f s'=>∃ v' ρ',f=.ret v' /\ FullS env ρ s.heap ρ' s'.heap /\ Rel cx H' ρ' s' /\ (VR cx ρ' s'.heap v v' /\ EnvSt cx env sc ρ' s'.heap)) (fun _ _=>False) s
  | .exc c Γ' H'=>T (fun _ _=>False) (fun e s'=>∃ ρ',FullS env ρ s.heap ρ' s'.heap /\ Rel cx H' ρ' s' /\ EnvOk cx env sc ns Γ' ρ' s'.heap /\ Flying cx ρ' s.heap s'.heap c e) s
theorem Bz.of {r:ResS} {t:Sem Flow} (x:Bt cx A env sc ns r t ρ s):Bz cx env sc ns r (fun Q E s=>wpAny (model cx.prog cx.w) A t Q E s) ρ s:=by cases r <;> exact x
theorem Bz.to {r:ResS} {t:Sem Flow} (x:Bz cx env sc ns r (fun Q E s=>wpAny (model cx.prog cx.w) A t Q E s) ρ s):Bt cx A env sc ns r t ρ s:=by cases r <;> exact x
theorem Bz.mono {r:ResS} {T T':(Flow -> Shared -> Prop) -> (Value -> Shared -> Prop) -> Shared -> Prop} (x:Bz cx env sc ns r T ρ s) (k:∀ Q E,T Q E s -> T' Q E s):Bz cx env sc ns r T' ρ s:=by cases r <;> first | trivial | exact k _ _ x
theorem Bt.bindK {α β:Type} {t:Sem α} {m:M β} {V:β -> α -> Amb} {g:β -> Hp -> ResS} {K:α -> (Flow -> Shared -> Prop) -> (Value -> Shared -> Prop) -> Shared -> Prop} {K':(Flow -> Shared -> Prop) -> (Value -> Shared -> Prop) -> Shared -> Prop} (e0:EnvOk cx env sc ns Γ ρ s.heap) (x:Bf cx A (m H) t V ρ s)
    (y:∀ b a H' ρ' s',m H=.ok b H' -> Full ρ s.heap ρ' s'.heap -> Rel cx H' ρ' s' -> EnvOk cx env sc ns Γ ρ' s'.heap -> (V b a).P ρ' s'.heap -> Bz cx env sc ns (g b H') (K a) ρ' s')
    (mk:∀ a,P9 (K a))
    (k:∀ Q E,wpAny (model cx.prog cx.w) A t (fun a s'=>K a Q E s') E s -> K' Q E s) :
    Bz cx env sc ns (Gl m Γ g H) K' ρ s:=by
  unfold Gl
  cases e:m H with
  | bad=>trivial
  | exc c H' =>
    rw [e] at x
    exact k _ _ (zE x (fun _ _ q=>q.elim) fun ex s' ⟨ρ',F,R,fl⟩=>⟨ρ',F.toS,R,e0.full F,fl⟩)
  | ok b H' =>
    rw [e] at x
    show Bz cx env sc ns (g b H') K' ρ s
    cases e2:g b H' with
    | bad=>trivial
    | next Γ2 H2 =>
      refine k _ _ (zE x (fun a s' ⟨ρ',F,R,v⟩=>?_) fun _ _ q=>q.elim)
      have z:=y b a H' ρ' s' e F R (e0.full F) v
      rw [e2] at z
      exact mk a _ _ _ _ _ z (fun f s'' ⟨h1,ρ'',F',R',e'⟩=>⟨h1,ρ'',F.toS.trans F',R',e'⟩) fun _ _ q=>q.elim
    | ret v2 H2 =>
      refine k _ _ (zE x (fun a s' ⟨ρ',F,R,v⟩=>?_) fun _ _ q=>q.elim)
      have z:=y b a H' ρ' s' e F R (e0.full F) v
      rw [e2] at z
      exact mk a _ _ _ _ _ z (fun f s'' ⟨v',ρ'',h1,F',R',e'⟩=>⟨v',ρ'',h1,F.toS.trans F',R',e'⟩) fun _ _ q=>q.elim
    | exc c2 Γ2 H2 =>
      refine k _ _ (zE x (fun a s' ⟨ρ',F,R,v⟩=>?_) fun _ _ q=>q.elim)
      have z:=y b a H' ρ' s' e F R (e0.full F) v
      rw [e2] at z
      exact mk a _ _ _ _ _ z (fun _ _ q=>q) fun ex s'' ⟨ρ'',F',R',e',fl⟩=>⟨ρ'',F.toS.trans F',R',e',fl.older F.live⟩
theorem Bz.look {β:Type} {f:Hp -> Option β} {g:β -> Hp -> ResS} {K:(Flow -> Shared -> Prop) -> (Value -> Shared -> Prop) -> Shared -> Prop} (y:∀ b,f H=some b -> Bz cx env sc ns (g b H) K ρ s):Bz cx env sc ns (Gl (M.look f) Γ g H) K ρ s:=by
  unfold Gl
  cases e:f H with
  | none=>rw [Ft e];trivial
  | some b=>rw [Fs e];exact y b e
theorem Aw.stmt {h h':Heap} (fr:Aw cx l ρ h) (F:FullS env ρ h ρ' h') (e0:EnvSt cx env sc ρ h) (e1:EnvSt cx env sc ρ' h'):Aw cx l ρ' h':=fun en he=>by
  refine Af fun G kG=>?_
  refine Ac (fr en he) fun k zz=>ex2 zz fun L o zz=>Fo zz fun h1 h2 h3 h5 h6=>?_
  refine kG ?_
  by_cases q:L=env.locals
  · refine Af fun G kG=>?_
    refine ex1 e1.loc fun m zz=>ex3 zz fun o' es ep zz=>An zz fun e' d _=>?_
    refine kG ?_
    rw [<- q] at e'
    exact ⟨k,L,o',h1,h2,e',⟨_,_,d⟩,by rw [q];exact e1.locN⟩
  · refine ex2 h5 fun es n hd=>?_
    refine ex1 (F.keep L o h3 h6 q (e0.notCell h3 fun v w=>by rw [hd] at w;cases w)) fun o' zz=>Ac zz fun e' u=>?_
    exact ⟨k,L,o',h1,h2,e',⟨es,n,by rw [u.data];exact hd⟩,F.grow.not h6 h3⟩
theorem Pd {st:Stmt} {rest:List Stmt} {m:Env' -> Hp -> ResS} {g:Env' -> Hp -> ResS} (e0:EnvOk cx env sc ns Γ ρ s.heap) (fr:Aw cx l ρ s.heap) (x:Bt cx A env sc ns (m Γ H) (exec st env) ρ s) (y:Gv cx A l env sc ns (execs rest env) g) :
    Bt cx A env sc ns (L7 (m Γ H) g) (execs (st :: rest) env) ρ s:=by
  cases e:m Γ H with
  | bad=>trivial
  | ret v H' =>
    rw [e] at x
    exact wpAny_execs_cons (zE x (fun f s' q=>by obtain ⟨v',ρ',rfl,q⟩:=q;exact ⟨v',ρ',rfl,q⟩) fun _ _ q=>q)
  | exc c Γ' H' =>
    rw [e] at x
    exact wpAny_execs_cons (zE x (fun f s' q=>q.elim) fun _ _ q=>q)
  | next Γ' H' =>
    rw [e] at x
    show Bt cx A env sc ns (g Γ' H') _ ρ s
    cases e2:g Γ' H' with
    | bad=>trivial
    | next Γ2 H2 =>
      refine wpAny_execs_cons (zE x (fun f s' q=>?_) fun _ _ q=>q.elim)
      obtain ⟨rfl,ρ',F,R,e'⟩:=q
      have z:=y Γ' H' ρ' s' R e' (fr.stmt F e0.st e'.st)
      rw [e2] at z
      exact zE z (fun f s'' ⟨h1,ρ'',F',R',e'⟩=>⟨h1,ρ'',F.trans F',R',e'⟩) fun _ _ q=>q.elim
    | ret v2 H2 =>
      refine wpAny_execs_cons (zE x (fun f s' q=>?_) fun _ _ q=>q.elim)
      obtain ⟨rfl,ρ',F,R,e'⟩:=q
      have z:=y Γ' H' ρ' s' R e' (fr.stmt F e0.st e'.st)
      rw [e2] at z
      exact zE z (fun f s'' ⟨v',ρ'',h1,F',R',e'⟩=>⟨v',ρ'',h1,F.trans F',R',e'⟩) fun _ _ q=>q.elim
    | exc c2 Γ2 H2 =>
      refine wpAny_execs_cons (zE x (fun f s' q=>?_) fun _ _ q=>q.elim)
      obtain ⟨rfl,ρ',F,R,e'⟩:=q
      have z:=y Γ' H' ρ' s' R e' (fr.stmt F e0.st e'.st)
      rw [e2] at z
      exact zE z (fun _ _ q=>q.elim) fun ex s'' ⟨ρ'',F',R',e',fl⟩=>⟨ρ'',F.trans F',R',e',fl.older F.live⟩
theorem S6 {i:Nat} {y:Str} {mv:Val} {v:Value} (ha:C3 ns) (R:Rel cx H ρ s) (e0:EnvOk cx env sc ns Γ ρ s.heap) (ho:Fm sc ns i y=true) (hv:VR cx ρ s.heap mv v) :
    Bz cx env sc ns (.next (Γ.set i (some mv)) H) (fun Q E s=>wpAny (model cx.prog cx.w) A (storeName env y v) (fun _=>Q .next) E s) ρ s :=
  D7 e0.len ha R e0 ho hv fun h' tk F' R' e' _=>⟨rfl,ρ,F',R',e'⟩
theorem N4 {y:Str} {v:Value}:P9 (α:=Flow) fun Q E s=>wpAny (model cx.prog cx.w) A (storeName env y v) (fun _=>Q .next) E s:=fun _ _ _ _ _ h k1 k2=>zE h (fun _ _=>k1 _ _) k2
end
section
variable {cx:Cx} {N:Names} {A:Around} {Φ:Funs} {l:List Env} {d:Nat} {env:Env} {sc:Scope} {ns:List (Option Str)} {Γ:Env'} {H:Hp} {ρ ρ':Rho} {s:Shared}
noncomputable def Wn (cx:Cx) (env:Env) (sc:Scope) (ns:List (Option Str)) (ρ:Rho) (h:Heap) (r:ResS) (Q:Flow -> Shared -> Prop) (E:Value -> Shared -> Prop):Prop :=
  match r with
  | .bad=>True
  | .next Γ' H'=>∀ s' ρ',FullS env ρ h ρ' s'.heap -> Rel cx H' ρ' s' -> EnvOk cx env sc ns Γ' ρ' s'.heap -> Q .next s'
  | .ret v H'=>∀ s' ρ' v',FullS env ρ h ρ' s'.heap -> Rel cx H' ρ' s' -> (VR cx ρ' s'.heap v v' /\ EnvSt cx env sc ρ' s'.heap) -> Q (.ret v') s'
  | .exc c Γ' H'=>∀ e s' ρ',FullS env ρ h ρ' s'.heap -> Rel cx H' ρ' s' -> EnvOk cx env sc ns Γ' ρ' s'.heap -> Flying cx ρ' h s'.heap c e -> E e s'
theorem Bz.ofPost {r:ResS} {T:(Flow -> Shared -> Prop) -> (Value -> Shared -> Prop) -> Shared -> Prop} (k:∀ Q E,r≠.bad -> Wn cx env sc ns ρ s.heap r Q E -> T Q E s):Bz cx env sc ns r T ρ s:=by
  cases r with
  | bad=>trivial
  | next Γ' H'=>exact k _ _ (fun q=>by cases q) fun s' ρ' F R e=>⟨rfl,ρ',F,R,e⟩
  | ret v H'=>exact k _ _ (fun q=>by cases q) fun s' ρ' v' F R e=>⟨v',ρ',rfl,F,R,e⟩
  | exc c Γ' H'=>exact k _ _ (fun q=>by cases q) fun e s' ρ' F R e' fl=>⟨ρ',F,R,e',fl⟩
theorem FullS.fresh {h h1 h2:Heap} {qs:List Addr} (F:FullS env ρ h ρ' h1) (hq:∀ q∈qs,h.get? q=none) (hs:∀ b o,b ∉ qs -> ¬ Av ρ' b -> h1.get? b=some o -> h2.get? b=some o) (lv:E1 h1 h2):FullS env ρ h ρ' h2:=by
  refine ⟨F.grow,fun b o e n n1 n2=>?_,F.live.trans lv⟩
  refine ex1 (F.keep b o e n n1 n2) fun o' zz=>Ac zz fun e' u=>?_
  refine ⟨o',hs b o' (fun w=>?_) (F.grow.not n e) e',u⟩
  rw [hq b w] at e;exact Ae e
theorem EnvOk.priv {h h':Heap} {qs:List Addr} (x:EnvOk cx env sc ns Γ ρ h) (hs:∀ b o,b ∉ qs -> ¬ Av ρ b -> h.get? b=some o -> h'.get? b=some o) (hq:∀ q∈qs,∃ o,h.get? q=some o /\ Gn o) (st:Step ρ h ρ h'):EnvOk cx env sc ns Γ ρ h':=by
  have nl:env.locals ∉ qs:=fun w=>by refine ex1 (hq _ w) fun o zz=>Ac zz fun e i=>?_;exact x.st.notLoc e i.notDict rfl
  have nc:∀ y c,env.cells.lookup y=some c -> c ∉ qs:=fun y c hc w=>by refine ex1 (hq _ w) fun o zz=>Ac zz fun e i=>?_;exact x.st.notCell e i.notCell y hc
  have kl:∀ o,h.get? env.locals=some o -> ∃ o',h'.get? env.locals=some o' /\ o'.data=o.data:=fun o e=>⟨o,hs _ o nl x.st.locN e,rfl⟩
  have kc:∀ y c,env.cells.lookup y=some c -> ∀ o,h.get? c=some o -> ∃ o',h'.get? c=some o' /\ o'.data=o.data:=fun y c hc o e=>⟨o,hs _ o (nc y c hc) (x.st.cells y c hc).2.1 e,rfl⟩
  obtain ⟨m,hm⟩:=x.st.loc
  refine ⟨⟨x.st.fn,x.st.glob,x.st.blt,x.st.kinds,⟨m,Bh hm kl⟩,x.st.locN,x.st.locB,fun y c hc=>?_,x.st.hasCell,x.st.apart⟩,x.len,fun i y mv hi hm=>?_⟩
  · refine An (x.st.cells y c hc) fun zn0 a b=>?_;obtain ⟨v,hv⟩:=zn0
    exact ⟨⟨v,Bi hv (kc y c hc)⟩,a,b⟩
  · refine ex1 (x.vals i y mv hi hm) fun v zz=>Ac zz fun hv r=>?_
    refine ⟨v,?_,r.step st⟩
    rcases hv with ⟨k,m,hm,e⟩ | ⟨k,c,hc,e⟩
    · exact .inl ⟨k,m,Bh hm kl,e⟩
    · exact .inr ⟨k,c,hc,Bi e (kc y c hc)⟩
structure Walk (cx:Cx) (A:Around) (it:Value) (target:Expr) (xs:List Val) (ck:Hp -> Bool) where
  Ok:Nat -> Rho -> Heap -> Prop
  priv:List Addr
  obj:∀ {i ρ h},Ok i ρ h -> ∀ q∈priv,(∃ o,h.get? q=some o /\ Gn o) /\ ¬ Av ρ q
  step:∀ {i ρ h ρ' h'},Ok i ρ h -> Step ρ h ρ' h' -> (∀ q∈priv,(∀ o,h.get? q=some o -> h'.get? q=some o) /\ ¬ Av ρ' q) -> Ok i ρ' h'
  item:∀ {i:Nat} {ρ:Rho} {H:Hp} {s:Shared} {m:Val} {Q:Value -> Shared -> Prop} {E E':Value -> Shared -> Prop} {QQ:Option Value -> Shared -> Prop},Rel cx H ρ s -> Ok i ρ s.heap -> ck H=true -> xs[i]?=some m -> (∀ q∈priv,cx.h₀.get? q=none) ->
    (∀ v s₁,wpAny (model cx.prog cx.w) A (letOwnedTupleGo target it v) (fun _ s₂=>Q v s₂) E' s₁ -> QQ (some v) s₁) ->
    (∀ v h' tk,Rel cx H ρ { s with heap:=h',toks:=tk } -> Step ρ s.heap ρ h' -> (∀ b o,b ∉ priv -> ¬ Av ρ b -> s.heap.get? b=some o -> h'.get? b=some o) -> E1 s.heap h' -> VR cx ρ h' m v -> Ok (i+1) ρ h' -> Q v { s with heap:=h',toks:=tk }) ->
    wpAny (model cx.prog cx.w) A (pyNext it) QQ E s
  fin:∀ {i:Nat} {ρ:Rho} {H:Hp} {s:Shared} {Q:Option Value -> Shared -> Prop} {E:Value -> Shared -> Prop},Rel cx H ρ s -> Ok i ρ s.heap -> ck H=true -> xs[i]?=none -> (∀ q∈priv,cx.h₀.get? q=none) ->
    (∀ h' tk,Rel cx H ρ { s with heap:=h',toks:=tk } -> Step ρ s.heap ρ h' -> (∀ b o,b ∉ priv -> ¬ Av ρ b -> s.heap.get? b=some o -> h'.get? b=some o) -> Q none { s with heap:=h',toks:=tk }) ->
    wpAny (model cx.prog cx.w) A (pyNext it) Q E s
noncomputable def S7 (cx:Cx) (A:Around) (env:Env) (sc:Scope) (ns:List (Option Str)) (target:Expr) (bind:Val -> Env' -> Option Env'):Prop :=
  ∀ (Γ Γ':Env') (H:Hp) (ρ:Rho) (s:Shared) (m:Val) (v:Value) (Q:Unit -> Shared -> Prop) (E:Value -> Shared -> Prop),bind m Γ=some Γ' -> Rel cx H ρ s -> EnvOk cx env sc ns Γ ρ s.heap -> VR cx ρ s.heap m v ->
    (∀ h' tk,FullS env ρ s.heap ρ h' -> Rel cx H ρ { s with heap:=h',toks:=tk } -> EnvOk cx env sc ns Γ' ρ h' -> Q () { s with heap:=h',toks:=tk }) -> wpAny (model cx.prog cx.w) A (assign target env v) Q E s
theorem S8 {i:Nat} {y:Str} {py:Pos} (ha:C3 ns) (ho:Fm sc ns i y=true):S7 cx A env sc ns (.Name y py) (Nm i):=by
  intro Γ Γ' H ρ s m v Q E hb R e0 vr k
  cases hb
  exact wpAny_assign_Name (D7 e0.len ha R e0 ho vr fun h' tk F R' e' _=>k h' tk F R' e')
theorem Ql {H:Hp} {c:Nat} {e:Value} {h:Heap} {ρ₀:Rho} {E:Value -> Shared -> Prop} (hfr:A.frames=some (env :: l)) (R:Rel cx H ρ s) (fr:Aw cx (env :: l) ρ s.heap) (e0:EnvOk cx env sc ns Γ ρ s.heap) (lb:E1 cx.h₀ h) (F:FullS env ρ₀ h ρ s.heap) (fl:Flying cx ρ h s.heap c e)
    (k:∀ s',FullS env ρ₀ h ρ s'.heap -> Rel cx H ρ s' -> EnvOk cx env sc ns Γ ρ s'.heap -> Flying cx ρ h s'.heap c e -> E e s') :
    notedBy (model cx.prog cx.w) A env (fun e s'=>cameBackBy (model cx.prog cx.w) A env E e s') e s:=by
  refine Af fun G kG=>?_
  refine Ac (fr env (.head _)) fun _ zz=>ex2 zz fun L _ zz=>Ac zz fun hf _=>?_
  refine kG ?_
  refine Nw hfr hf fr R lb F.live fl fun h1 o1 fl1=>Aah (s:={ s with heap:=h1 }) lb fl1 fun h2 o2 fl2=>?_
  have o:=o1.trans o2
  exact k { s with heap:=h2 } (o.fullS F) (o.rel R) (o.envK e0) fl2.to
theorem Pe {it:Value} {target:Expr} {xs:List Val} {ck:Hp -> Bool} {bind:Val -> Env' -> Option Env'} {body:MSs} {stmts:List Stmt} {ρ₁:Rho} {s₁:Shared} (W:Walk cx A it target xs ck) (hfr:A.frames=some (env :: l)) (hB:S7 cx A env sc ns target bind)
    (hb:Gv cx A (env :: l) env sc ns (execs stmts env) (execSs cx.T Φ body))
    (e1:EnvOk cx env sc ns Γ ρ₁ s₁.heap) (fr:Aw cx (env :: l) ρ₁ s₁.heap) (lvB:E1 cx.h₀ s₁.heap) (hpriv:∀ q∈W.priv,s₁.heap.get? q=none)
    {s:Shared} {H:Hp} {ρ:Rho} (F0:FullS env ρ₁ s₁.heap ρ s.heap) (R0:Rel cx H ρ s) (e0:EnvOk cx env sc ns Γ ρ s.heap) (ok:W.Ok 0 ρ s.heap) {Q:Flow -> Shared -> Prop} {E:Value -> Shared -> Prop}
    (nb:E4 ck bind (execSs cx.T Φ body) xs Γ H≠.bad) (p:Wn cx env sc ns ρ₁ s₁.heap (E4 ck bind (execSs cx.T Φ body) xs Γ H) Q E) :
    codeAny (model cx.prog cx.w) A (.forLoop target it stmts [] env) (fun r s'=>match r with | .ok f=>Q f s' | .error e=>cameBackBy (model cx.prog cx.w) A env E e s') s:=by
  generalize hres:E4 ck bind (execSs cx.T Φ body) xs Γ H=res at nb p
  refine codeAny_forLoop_any (fun n s=>∃ i Γ H ρ,FullS env ρ₁ s₁.heap ρ s.heap /\ Rel cx H ρ s /\ EnvOk cx env sc ns Γ ρ s.heap /\ W.Ok i ρ s.heap /\ i <= xs.length /\ n=xs.length+1 - i /\ E4 ck bind (execSs cx.T Φ body) (xs.drop i) Γ H=res) ?_ (xs.length+1)
    ⟨0,Γ,H,ρ,F0,R0,e0,ok,Nat.zero_le _,rfl,hres⟩
  have privB:∀ q∈W.priv,cx.h₀.get? q=none:=fun q hq=>lvB.none (hpriv q hq)
  clear F0 R0 e0 ok hres
  intro n s zz
  refine ex4 zz fun i Γ H ρ zz=>Nj zz fun F R e0 ok hi hr0 hr=>?_
  cases hx:xs[i]? with
  | none =>
    rw [List.drop_eq_nil_of_le (List.getElem?_eq_none_iff.mp hx)] at hr
    rw [L8] at hr
    by_cases ckh:ck H=true
    · rw [if_pos ckh] at hr
      subst hr
      refine W.fin R ok ckh hx privB fun h' tk R' st ex=>?_
      refine wpAny_execs_nil ?_
      have e':EnvOk cx env sc ns Γ ρ h':=e0.priv ex (fun q hq=>(W.obj ok q hq).1) st
      have F':FullS env ρ₁ s₁.heap ρ h':=by
        refine ⟨F.grow,fun b o e n n1 n2=>?_,fun b o e=>?_⟩
        · refine ex1 (F.keep b o e n n1 n2) fun o' zz=>Ac zz fun eo' u=>?_
          exact ⟨o',ex b o' (fun w=>by rw [hpriv b w] at e;cases e) (F.grow.not n e) eo',u⟩
        · by_cases ow:Av ρ b
          · exact R'.owned_lt ow
          · obtain ⟨o',eo'⟩:=F.live b o e
            exact ⟨o',ex b o' (fun w=>by rw [hpriv b w] at e;cases e) ow eo'⟩
      exact p _ ρ F' R' e'
    · rw [if_neg ckh] at hr;exact absurd hr.symm nb
  | some m =>
    have lt:i < xs.length:=(List.getElem?_eq_some_iff.mp hx).1
    have hdrop:xs.drop i=m :: xs.drop (i+1):=by
      rw [List.drop_eq_getElem_cons lt]
      rw [List.getElem?_eq_getElem lt] at hx
      cases hx;rfl
    rw [hdrop] at hr
    rw [Ka] at hr
    by_cases ckh:ck H=true
    · rw [if_pos ckh] at hr
      cases hbd:bind m Γ with
      | none=>rw [hbd] at hr;exact absurd hr.symm nb
      | some Γ1 =>
        rw [hbd] at hr
        dsimp only at hr
        refine W.item R ok ckh hx privB (fun v s₁ h=>h) fun v h' tk R' st ex lv vr ok'=>?_
        · -- what comes behind the item
          have e':EnvOk cx env sc ns Γ ρ h':=e0.priv ex (fun q hq=>(W.obj ok q hq).1) st
          have F':FullS env ρ₁ s₁.heap ρ h':=F.fresh hpriv ex lv
          refine hB Γ Γ1 H ρ { s with heap:=h',toks:=tk } m v _ _ hbd R' e' vr fun h2 tk2 F2 R2 e2=>?_
          have F12:FullS env ρ₁ s₁.heap ρ h2:=F'.trans F2
          have priv2:∀ q∈W.priv,(∀ o,h'.get? q=some o -> h2.get? q=some o) /\ ¬ Av ρ q:=fun q hq=>by
            obtain ⟨⟨o,eo,io⟩,no⟩:=W.obj ok' q hq
            refine ⟨fun o2 eo2=>?_,no⟩
            rw [eo] at eo2;cases eo2
            refine ex1 (F2.keep q o eo no (e'.st.notLoc eo io.notDict) (e'.st.notCell eo io.notCell)) fun o3 zz=>Ac zz fun eo3 u=>?_
            rw [eo3,u.exact io.notDict]
          have ok2:W.Ok (i+1) ρ h2:=W.step ok' (FullS.step e'.st F2) priv2
          have fr2:Aw cx (env :: l) ρ h2:=fr.stmt F12 e1.st e2.st
          have B:=hb Γ1 H ρ { s with heap:=h2,toks:=tk2 } R2 e2 fr2
          cases hbody:execSs cx.T Φ body Γ1 H with
          | bad=>rw [hbody] at hr;exact absurd hr.symm nb
          | next Γ3 H3 =>
            rw [hbody] at hr B
            dsimp only [L7] at hr
            refine zE B (fun f s3 q=>?_) fun _ _ q=>q.elim
            refine Ac q fun zr0 zz=>ex1 zz fun ρ3 zz=>An zz fun F3 R3 e3=>?_;subst zr0
            refine ⟨xs.length+1 - (i+1),by exact Aff lt hr0,i+1,Γ3,H3,ρ3,F12.trans F3,R3,e3,?_,lt,rfl,hr⟩
            refine W.step ok2 (FullS.step e2.st F3) fun q hq=>?_
            refine Af fun G kG=>?_
            obtain ⟨⟨o,eo,io⟩,no⟩:=W.obj ok2 q hq
            refine kG ?_
            refine ⟨fun o2 eo2=>?_,F3.grow.not no eo⟩
            rw [eo] at eo2;cases eo2
            refine ex1 (F3.keep q o eo no (e2.st.notLoc eo io.notDict) (e2.st.notCell eo io.notCell)) fun o3 zz=>Ac zz fun eo3 u=>?_
            rw [eo3,u.exact io.notDict]
          | ret v3 H3 =>
            rw [hbody] at hr B
            dsimp only [L7] at hr
            subst hr
            refine zE B (fun f s3 q=>?_) fun _ _ q=>q.elim
            refine Af fun G kG=>?_
            refine ex2 q fun v' ρ3 zz=>Cm zz fun zr2 F3 R3 vr3=>?_;subst zr2
            refine kG ?_
            exact p s3 ρ3 v' (F12.trans F3) R3 vr3
          | exc c3 Γ3 H3 =>
            rw [hbody] at hr B
            dsimp only [L7] at hr
            subst hr
            refine zE B (fun _ _ q=>q.elim) fun e s3 ⟨ρ3,F3,R3,e3,fl⟩=>?_
            exact Ql hfr R3 (fr.stmt (F12.trans F3) e1.st e3.st) e3 lvB (F12.trans F3) (fl.older F12.live) fun s4 F4 R4 e4 fl4=>p e s4 ρ3 F4 R4 e4 fl4
    · rw [if_neg ckh] at hr;exact absurd hr.symm nb
noncomputable def S9 (hh:A.handled=none) (xs:List Val) (I:Addr) (src:Option Nat) (y:Str) (py:Pos):Walk cx A (.ref I) (.Name y py) xs (chk src xs) where
  Ok i ρ h:=ItOk cx xs I i ρ h src /\ ¬ Av ρ I
  priv:=[I]
  obj:=fun ⟨h1,h2⟩ q hq=>by rw [List.mem_singleton.mp hq];exact ⟨h1.obj,h2⟩
  step:=fun ⟨h1,h2⟩ st k=>⟨h1.step st (k I (.head _)).1,(k I (.head _)).2⟩
  item:=by
    intro i ρ H s m Q E E' QQ R ⟨ok,no⟩ ck hx hb qq k
    refine ex1 ok.obj fun o zz=>Ac zz fun e io=>?_
    refine Mm R ok ck hx fun v h' tk hs hl kk=>qq v _ ?_
    obtain ⟨o',e'⟩:=hl
    have st:Step ρ s.heap ρ h':=Step.but e' e hs io.not.1 io.not.2
    obtain ⟨vr,ok'⟩:=kk st
    refine zH (k v h' tk (R.but e' e hs io.not.1 io.not.2 no (hb I (.head _))) st (fun b o nb _ eb=>by rw [hs.2 b (fun w=>nb (w▸.head _))];exact eb) (SameBut.live hs e') vr ⟨ok',no⟩)
  fin:=by
    intro i ρ H s Q E R ⟨ok,no⟩ ck hx hb k
    refine ex1 ok.obj fun o zz=>Ac zz fun e io=>?_
    refine O8 hh R ok ck hx fun h' tk he=>?_
    exact k h' tk (R.ext e he io.not.1 io.not.2 no (hb I (.head _))) (Step.ext e he io.not.1 io.not.2) fun b o nb _ eb=>he b o (fun w=>nb (w▸.head _)) eb
theorem Hk {E E':Value -> Shared -> Prop} {e:Value} {M:Model} (h:cameBackBy M A env E e s) (k:∀ e s,E e s -> E' e s):cameBackBy M A env E' e s:=zE h (fun _ _=>k _ _) k
theorem Wo {i:Nat} {it:ME} {body:MSs} {y:Str} {x:Expr} {stmts:List Stmt} {py pos:Pos} (hh:A.handled=none) (hfr:A.frames=some (env :: l)) (ha:C3 ns) (ho:Fm sc ns i y=true) (hn:Ed x=true)
    (hx:∀ Γ:Env',Γ.length=ns.length -> EOk cx A ((Amb.env cx env sc ns Γ).and (Amb.frames cx (env :: l))) Φ env Γ it x) (hb:Gv cx A (env :: l) env sc ns (execs stmts env) (execSs cx.T Φ body)) :
    Gv cx A (env :: l) env sc ns (exec (.For (.Name y py) x stmts [] pos) env) (Da cx.T Φ (.each i it body)):=by
  intro Γ H ρ s R e0 fr
  refine Bz.to ?_
  refine Bt.bindK (K:=fun xv Q E s=>wpAny (model cx.prog cx.w) A (pyIter xv) (fun it s₂=>codeAny (model cx.prog cx.w) A (.forLoop (.Name y py) it stmts [] env) (fun r s'=>match r with | .ok f=>Q f s' | .error e=>cameBackBy (model cx.prog cx.w) A env E e s') s₂) E s) e0 ((hx Γ e0.len).val H ρ s R ⟨e0,fr⟩) ?_ ?_ ?_
  · intro v xv H1 ρ1 s1 _ F1 R1 e1 vr
    refine Bz.look fun pr hp=>?_
    obtain ⟨xs,src⟩:=pr
    refine Bz.ofPost fun Q E nb p=>?_
    refine Kh R1 vr hp fun o go it0=>?_
    have F2:Full ρ1 s1.heap ρ1 (s1.heap.push o):=Full.push _ _ _
    exact Pe (S9 hh xs s1.heap.objs.size src y py) hfr (S8 ha ho) hb e1 ((Amb.frames cx (env :: l)).st _ _ _ _ fr F1) (fun b o e=>⟨o,R1.base b o e⟩) (fun q hq=>by rw [List.mem_singleton.mp hq];exact Ao _) F2.toS (R1.push o s1.toks) (e1.full F2) ⟨it0,R1.fresh_not (Ao _)⟩ nb p
  · intro xv Q E Q' E' s h k1 k2
    exact zE h (fun it s₂ h2=>codeAny_mono h2 fun r s' hr=>by
      cases r with
      | ok f=>exact k1 _ _ hr
      | error e=>exact Hk hr k2) k2
  · intro Q E h
    exact wpAny_For h (fun xv=>Fu hn env xv)
end
section
variable {cx:Cx} {N:Names} {A:Around} {Φ:Funs} {l:List Env} {d:Nat} {env:Env} {sc:Scope} {ns:List (Option Str)} {Γ:Env'} {H:Hp} {ρ ρ':Rho} {s:Shared}
theorem Rel.turn (R:Rel cx H ρ s) {l:Nat} {p:Addr × Addr} {o:HObj} {h':Heap} {tk:Nat} (hl:ρ[l]?=some p) (hp:H[l]?=some o) (k:∀ b ob,s.heap.get? b=some ob -> Av ρ b -> b≠p.1 -> b≠p.2 -> h'.get? b=some ob) (st:Step ρ s.heap ρ h') (kb:∀ b o,cx.h₀.get? b=some o -> h'.get? b=some o) (x:HR cx ρ h' o p) :
    Rel cx H ρ { s with heap:=h',toks:=tk }:=by
  refine ⟨R.len,fun i ob q hi hq=>?_,R.apart,R.new,kb,R.sys,?_⟩
  · by_cases e:i=l
    · subst e
      rw [hl] at hq;cases hq
      rw [hp] at hi;cases hi
      exact x
    · refine (R.objs i ob q hi hq).step st fun b ob' hb eb=>?_
      refine An (R.apart i l q p e hq hl) fun zn0 a3 a4=>?_;obtain ⟨a1,a2⟩:=zn0
      have ow:Av ρ b:=⟨q,zF hq,hb⟩
      rcases hb with rfl | rfl
      · exact k _ _ eb ow a1 a2
      · exact k _ _ eb ow a3 a4
  · refine ex2 R.rest fun h t hr0=>?_;refine Eq.symm hr0▸?_
    exact ⟨h',tk,rfl⟩
theorem Ta (hh:A.handled=none) {i j:Nat} {y z:Str} {py pz pt:Pos} {k:Nat} (ha:C3 ns) (hy:Fm sc ns i y=true) (hz:Fm sc ns j z=true):S7 cx A env sc ns (.Tuple [.Name y py,.Name z pz] k pt) (Zm i j):=by
  intro Γ Γ' H ρ s m v Q E hb R e0 vr kk
  refine ex1 (Option.map_eq_some_iff.mp hb) fun zn0 zz=>Ac zz fun e1 hb=>?_;obtain ⟨a,b⟩:=zn0
  cases Ro e1
  cases hb
  · cases vr with
    | @tup t vs n ms g no zz r =>
      cases r with
      | @cons _ va _ _ ra r =>
        cases r with
        | @cons _ vb _ _ rb r =>
          cases r
          refine wpAny_assign_Tuple (items:=[va,vb].toArray) hh ⟨_,g,rfl,n,rfl⟩ rfl rfl fun h1 ex=>?_
          have kp:∀ b o,s.heap.get? b=some o -> h1.get? b=some o:=fun b o e=>ex b o (Nat.ne_of_lt (Heap.lt_size e)) e
          have F1:Full ρ s.heap ρ h1:=Full.more kp
          have R1:Rel cx H ρ { s with heap:=h1 }:=R.more (tk:=s.toks) kp
          refine wpAny_assignInOrder_more (wpAny_assign_Name (D7 (s:={ s with heap:=h1 }) (e0.full F1).len ha R1 (e0.full F1) hy (ra.step F1.step) fun h2 tk2 F2 R2 e2 _=>?_))
          have St2:=FullS.step (e0.full F1).st F2
          refine wpAny_assignInOrder_more (wpAny_assign_Name (D7 (s:={ s with heap:=h2,toks:=tk2 }) e2.len ha R2 e2 hz ((rb.step F1.step).step St2) fun h3 tk3 F3 R3 e3 _=>?_))
          exact wpAny_assignInOrder_none (kk h3 tk3 ((F1.toS.trans F2).trans F3) R3 e3)
theorem Ae4 {h:Heap} {z TI TO:Addr} {f:Value} (x:IsZip h z TI TO f):∃ o,h.get? z=some o /\ Gn o:=⟨_,x,⟨_,rfl⟩,_,rfl,by decide⟩
theorem Mp {h:Heap} {i l:Addr} {k:Nat} (x:h.IsListIter i l k):∃ o,h.get? i=some o /\ Gn o:=by refine ex1 x fun o zz=>An zz fun e c d=>?_;exact ⟨o,e,⟨_,d⟩,_,c,by decide⟩
theorem Hl {h:Heap} {a b:Addr} {o:Obj} (x:∃ o,h.get? a=some o /\ Gn o) (e:h.get? b=some o) (n:∀ vs,o.data≠.fields vs):a≠b:=fun w=>by
  refine ex1 x fun o' zz=>Ac zz fun e' zz=>Ac zz fun zn2 _=>?_;obtain ⟨vs,d⟩:=zn2
  rw [w,e] at e';cases e'
  exact n vs d
noncomputable def Fw (_:Bool) (h:Heap) (I a:Addr) (k:Nat) (items:Array Value):Prop:=h.IsListIter I a k /\ h.IsList a items
section
variable {b:Bool} {h h':Heap} {I a c:Addr} {k:Nat} {items:Array Value}
theorem Fw.ext (x:Fw b h I a k items) (hs:Heap.ExtBut c h h') (n1:I≠c) (n2:a≠c):Fw b h' I a k items:=⟨x.1.extBut hs n1,x.2.extBut hs n2⟩
theorem Fw.obj (x:Fw b h I a k items):∃ o,h.get? I=some o /\ Gn o:=Mp x.1
theorem Fw.ne (x:Fw b h I a k items):a≠I:=fun w=>by
  refine ex1 x.2 fun o' zz=>An zz fun e' c zz=>ex1 zz fun n d'=>?_
  exact Hl x.obj e' (fun vs q=>by rw [d'] at q;cases q) w.symm
end
theorem Mq {b:Bool} {I a:Addr} {k:Nat} {items:Array Value} {x:Value} {Q:Value -> Shared -> Prop} {E:Value -> Shared -> Prop} (it:Fw b s.heap I a k items) (hx:items[k]?=some x)
    (hQ:∀ h',Fw b h' I a (k+1) items -> Heap.SameBut I s.heap h' -> Q x { s with heap:=h' }):wpAny (model cx.prog cx.w) A (Builtin.SmallTypes.nextOf (.ref I)) Q E s :=
  wpAny_nextOf_list_item it.1 it.2 hx fun h' i' hs=>hQ h' ⟨i',it.2.extBut hs.extBut it.ne⟩ hs
theorem Wq {b:Bool} {I a:Addr} {k:Nat} {items:Array Value} {Q:Value -> Shared -> Prop} {E:Value -> Shared -> Prop} (hh:A.handled=none) (it:Fw b s.heap I a k items) (hx:items[k]?=none)
    (hE:∀ h' e,Heap.ExtBut I s.heap h' -> (∃ o,h'.get? e=some o /\ o.cls=.type "StopIteration") -> E (.ref e) { s with heap:=h' }):wpAny (model cx.prog cx.w) A (Builtin.SmallTypes.nextOf (.ref I)) Q E s :=
  wpAny_nextOf_list_end hh it.1 it.2 hx hE
theorem Wr {b1 b2:Bool} {z TI TO i1 i2 a1 a2:Addr} {k1 k2:Nat} {xs ys:Array Value} {x y u v:Value} {Q:Option Value -> Shared -> Prop} {E:Value -> Shared -> Prop} (D:ZipApart z TI TO i1 i2 a1 a2)
    (hz:IsZip s.heap z TI TO .none) (hTI:IsPair s.heap TI (.ref i1) (.ref i2)) (hTO:IsPair s.heap TO u v) (h1:Fw b1 s.heap i1 a1 k1 xs) (h2:Fw b2 s.heap i2 a2 k2 ys) (hx:xs[k1]?=some x) (hy:ys[k2]?=some y)
    (hQ:∀ h',IsZip h' z TI TO (rawInt s.heap.objs.size) -> IsPair h' TO x y -> Fw b1 h' i1 a1 (k1+1) xs -> Fw b2 h' i2 a2 (k2+1) ys -> IsPair h' s.heap.objs.size x y ->
      (∀ c o,c≠z -> c≠TO -> c≠i1 -> c≠i2 -> s.heap.get? c=some o -> h'.get? c=some o) -> Q (some (.ref s.heap.objs.size)) { s with heap:=h' }):wpAny (model cx.prog cx.w) A (pyNext (.ref z)) Q E s:=by
  have hT:s.TypeIs (.ref z) "zip":=⟨_,hz,rfl⟩
  unfold pyNext
  refine zB (wpAny_attempt (wpAny_callSpecial?_slot (name:=Str.ofString "__next__") hT F.slot_zip_next (wpAny_call_entry F.slot_zip_next hT F.entry_zip_next ?_ (F.args_zip_next_1 _))))
  show wpAny _ _ (field (.ref z) 2>>=_) _ _ _
  refine zB (wpAny_field hz rfl (x:=.bool false) rfl ?_)
  refine zB (wpAny_field hz rfl (x:=.ref TI) rfl ?_)
  refine zB (wpAny_seqItems hTI rfl ?_)
  refine zB ?_
  unfold Builtin.SmallTypes.ownedTupleIsFree
  refine zB (wpAny_field hz rfl (x:=.none) rfl (zH ?_))
  simp only [if_true]
  refine zB (wpAny_rule ?_)
  refine zB (wpAny_field hz rfl (x:=.ref TO) rfl ?_)
  refine zB (wpAny_setField_rec hz (by simp) fun ha za sa=>?_)
  replace za:IsZip ha z TI TO .ellipsis:=za
  refine zB ?_
  simp only [List.zipIdx_cons,List.zipIdx_nil,List.forIn_cons,List.forIn_nil]
  refine zB (zB (wpAny_onRaise ?_))
  refine zB (Mq (h1.ext sa.extBut D.i1z D.l1z) hx fun hb ib sb=>zH ?_)
  have tb:IsPair hb TO u v:=sb.extBut _ _ D.TOi1 (sa.extBut _ _ D.TOz hTO)
  refine zB (wpAny_seqItems tb rfl ?_)
  refine zB (wpAny_updateSeq_pair tb fun hc tc sc=>?_)
  replace tc:IsPair hc TO x v:=tc
  refine zB (wpAny_letGo (zH ?_))
  refine zB (zB (wpAny_onRaise ?_))
  refine zB (Mq (((h2.ext sa.extBut D.i2z D.l2z).ext sb.extBut D.i12.symm D.l2i1).ext sc.extBut D.TOi2.symm D.l2TO) hy fun hd id_ sd=>zH ?_)
  have td:IsPair hd TO x v:=sd.extBut _ _ D.TOi2 tc
  refine zB (wpAny_seqItems td rfl ?_)
  refine zB (wpAny_updateSeq_pair td fun he te se=>?_)
  replace te:IsPair he TO x y:=te
  refine zB (wpAny_letGo (zH (zH ?_)))
  refine zB (wpAny_seqItems te rfl ?_)
  refine zB (wpAny_newTuple ?_)
  have sz:he.objs.size=s.heap.objs.size:=by rw [se.1,sd.1,sc.1,sb.1,sa.1]
  have ze:IsZip he z TI TO .ellipsis:=se.extBut _ _ D.TOz.symm (sd.extBut _ _ D.i2z.symm (sc.extBut _ _ D.TOz.symm (sb.extBut _ _ D.i1z.symm za)))
  have lz:z < he.objs.size:=Heap.lt_size ze
  refine zB ?_
  unfold Builtin.SmallTypes.ownedTupleHandOut
  have zf:IsZip (he.push { cls:=.type "tuple",data:=.seq #[x,y] }) z TI TO .ellipsis:=Heap.get?_push_of_some _ ze
  refine zB (wpAny_setField_rec zf (by simp) fun hg zg sg=>?_)
  replace zg:IsZip hg z TI TO (rawInt he.objs.size):=zg
  refine wpAny_setField_rec zg (by simp) fun hf zh sh=>?_
  replace zh:IsZip hf z TI TO (rawInt he.objs.size):=zh
  have up:Heap.ExtBut z he hf:=fun c o c1 e=>sh.extBut _ _ c1 (sg.extBut _ _ c1 (Heap.get?_push_of_some _ e))
  have tn:IsPair hf he.objs.size x y:=sh.extBut _ _ (Nat.ne_of_gt lz) (sg.extBut _ _ (Nat.ne_of_gt lz) (Heap.get?_push_size _ rfl))
  have i1e:=(((ib.ext sc.extBut D.TOi1.symm D.l1TO).ext sd.extBut D.i12 D.l1i2).ext se.extBut D.TOi1.symm D.l1TO).ext up D.i1z D.l1z
  have i2e:=(id_.ext se.extBut D.TOi2.symm D.l2TO).ext up D.i2z D.l2z
  rw [sz] at zh tn
  refine zH ⟨_,rfl,zH ?_⟩
  rw [sz]
  exact hQ hf zh (up _ _ D.TOz te) i1e i2e tn fun c o c1 c2 c3 c4 e=>up c o c1 (se.extBut _ _ c2 (sd.extBut _ _ c4 (sc.extBut _ _ c2 (sb.extBut _ _ c3 (sa.extBut _ _ c1 e)))))
theorem Ws {b:Bool} {z TI TO i1 i2 a1:Addr} {k1:Nat} {xs:Array Value} {Q:Option Value -> Shared -> Prop} {E:Value -> Shared -> Prop} (hh:A.handled=none) (n1:i1≠z) (n2:a1≠z) (hz:IsZip s.heap z TI TO .none) (hTI:IsPair s.heap TI (.ref i1) (.ref i2))
    (h1:Fw b s.heap i1 a1 k1 xs) (hend:xs[k1]?=none)
    (hQ:∀ h',(∀ c o,c≠z -> c≠i1 -> s.heap.get? c=some o -> h'.get? c=some o) -> Q none { s with heap:=h' }):wpAny (model cx.prog cx.w) A (pyNext (.ref z)) Q E s:=by
  have hT:s.TypeIs (.ref z) "zip":=⟨_,hz,rfl⟩
  have D0:wpAny (model cx.prog cx.w) A.in1 (Builtin.«zip.__next__» ⟨[.ref z],[]⟩) (fun _ _=>False) (fun e s'=>(∃ o a,e=.ref a /\ s'.heap.get? a=some o /\ o.cls=.type "StopIteration") /\ ∃ h',s'={ s with heap:=h' } /\ (∀ c o,c≠z -> c≠i1 -> s.heap.get? c=some o -> h'.get? c=some o)) s:=by
    show wpAny _ _ (field (.ref z) 2>>=_) _ _ _
    refine zB (wpAny_field hz rfl (x:=.bool false) rfl ?_)
    refine zB (wpAny_field hz rfl (x:=.ref TI) rfl ?_)
    refine zB (wpAny_seqItems hTI rfl ?_)
    refine zB ?_
    unfold Builtin.SmallTypes.ownedTupleIsFree
    refine zB (wpAny_field hz rfl (x:=.none) rfl (zH ?_))
    simp only [if_true]
    refine zB (wpAny_rule ?_)
    refine zB (wpAny_field hz rfl (x:=.ref TO) rfl ?_)
    refine zB (wpAny_setField_rec hz (by simp) fun ha za sa=>?_)
    replace za:IsZip ha z TI TO .ellipsis:=za
    refine zB ?_
    simp only [List.zipIdx_cons,List.zipIdx_nil,List.forIn_cons,List.forIn_nil]
    refine zB (zB (wpAny_onRaise ?_))
    refine zB (Wq hh (h1.ext sa.extBut n1 n2) hend fun hb e sb he=>?_)
    refine ex1 he fun oe zz=>Ac zz fun hoe hce=>?_
    have zb:IsZip hb z TI TO .ellipsis:=sb _ _ n1.symm za
    have hez:e≠z:=fun x=>by subst x;rw [zb] at hoe;cases hoe;simp at hce
    refine wpAny_setField_rec zb (by simp) fun hc _ sc=>⟨⟨oe,e,rfl,sc.extBut _ _ hez hoe,hce⟩,hc,rfl,fun c o c1 c2 x=>sc.extBut _ _ c1 (sb _ _ c2 (sa.extBut _ _ c1 x))⟩
  unfold pyNext
  refine zB (wpAny_attempt (wpAny_callSpecial?_slot (name:=Str.ofString "__next__") hT F.slot_zip_next
    (wpAny_call_entry F.slot_zip_next hT F.entry_zip_next (zE D0 (fun _ _ q=>q.elim) fun e s' q=>?_) (F.args_zip_next_1 _))))
  refine Ac q fun zn0 zz=>ex1 zz fun h' zz=>Ac zz fun zr2 hk=>?_;obtain ⟨o,a,rfl,ho,hc⟩:=zn0;subst zr2
  refine zB (wpAny_isInstance (T:="StopIteration") (b:=true) ⟨o,ho,hc⟩ isSubtype_stop ?_)
  exact zH (hQ _ hk)
theorem Wt {l:Nat} {H:Hp} (h:Ma l H=true):H[l]?=some .hid:=by
  unfold Ma at h
  split at h
  · assumption
  · exact Am h
theorem Kk:∀ {xs ys:List Val} {i:Nat} {m:Val},(Du xs ys)[i]?=some m -> ∃ a b,xs[i]?=some a /\ ys[i]?=some b /\ m=.tup [a,b]
  | [],_,_,_,h=>by simp [Du] at h
  | _ :: _,[],_,_,h=>by simp [Du] at h
  | a :: xs,b :: ys,0,m,h=>by simp [Du] at h;exact ⟨a,b,rfl,rfl,h.symm⟩
  | a :: xs,b :: ys,i+1,m,h=>by
    have h':(Du xs ys)[i]?=some m:=by simpa [Du] using h
    refine Af fun G kG=>?_
    refine ex2 (Kk h') fun a' b' zz=>An zz fun h1 h2 h3=>?_
    refine kG ?_
    exact ⟨a',b',by simpa using h1,by simpa using h2,h3⟩
theorem Jn:∀ {xs ys:List Val} {i:Nat},xs.length=ys.length -> (Du xs ys)[i]?=none -> xs[i]?=none
  | [],_,_,_,_=>by simp
  | _ :: _,[],_,hl,_=>by simp at hl
  | a :: xs,b :: ys,0,_,h=>by simp [Du] at h
  | a :: xs,b :: ys,i+1,hl,h=>by simp [Du] at h ⊢;have:=Jn (by simpa using hl) (by simpa using h);simpa using this
theorem Rel.hidAt (R:Rel cx H ρ s) {l:Nat} {p:Addr × Addr} (hH:H[l]?=some .hid) (hρ:ρ[l]?=some p):p.2=p.1 /\ ∃ x y,s.heap.get? p.1=some (Ox [x,y] 0):=by
  have:=R.objs l _ p hH hρ
  generalize ho:HObj.hid=o at this
  cases this with
  | list e r z=>exact nomatch ho
  | dict d r z=>cases ho
  | inst _ _ _ _ _ _ _ _ _ _=>cases ho
  | hid e=>exact ⟨rfl,_,_,e⟩
theorem Mr {h h':Heap} {qs:List Addr} (hq:∀ q∈qs,Av ρ q \/ ∃ o,h.get? q=some o /\ Gn o) (k:∀ b o,b ∉ qs -> h.get? b=some o -> h'.get? b=some o):Step ρ h ρ h':=by
  refine ⟨⟨[],by simp⟩,fun b o e f n=>⟨k b o (fun w=>?_) e,n⟩,fun b o C e f n=>⟨o,k b o (fun w=>?_) e,f,n⟩⟩
  · rcases hq b w with w | ⟨o',e',io⟩
    · exact n w
    · rw [e] at e';cases e';exact io.not.1 f
  · rcases hq b w with w | ⟨o',e',io⟩
    · exact n w
    · rw [e] at e';cases e';exact io.not.2 C f
inductive ZIt (cx:Cx) (xs:List Val) (I:Addr) (i:Nat) (ρ:Rho) (h:Heap):Option Nat -> Prop
  | list {l:Nat} {p:Addr × Addr}:ρ[l]?=some p -> h.IsListIter I p.1 i -> ZIt cx xs I i ρ h (some l)
section
variable {xs:List Val} {I:Addr} {i:Nat} {src:Option Nat}
theorem ZIt.obj {h:Heap} (x:ZIt cx xs I i ρ h src):∃ o,h.get? I=some o /\ Gn o:=by
  cases x with
  | list hp hi=>exact Mp hi
theorem ZIt.step {h h':Heap} (x:ZIt cx xs I i ρ h src) (st:Step ρ h ρ' h') (k:∀ o,h.get? I=some o -> h'.get? I=some o):ZIt cx xs I i ρ' h' src:=by
  cases x with
  | list hp hi=>exact .list (st.get hp) (hi.at k)
theorem ZIt.raw (R:Rel cx H ρ s) (x:ZIt cx xs I i ρ s.heap src) (ck:chk src xs H=true):∃ (b:Bool) (a:Addr) (vs:List Value),Fw b s.heap I a i vs.toArray /\ VRs cx ρ s.heap xs vs /\ (∀ c,(∃ o,s.heap.get? c=some o /\ Gn o) -> a≠c) /\
    (∀ (hl:Nat) (TO:Addr),H[hl]?=some HObj.hid -> ρ[hl]?=some (TO,TO) -> a≠TO) /\ ∀ h',Step ρ s.heap ρ h' -> Fw b h' I a (i+1) vs.toArray -> ZIt cx xs I (i+1) ρ h' src:=by
  cases x with
  | @list l p hp hi =>
    have H1:=Rq ck
    refine Af fun G kG=>?_
    refine ex2 (R.listAt H1 hp) fun vs n zz=>Cm zz fun _ g r z=>?_
    refine kG ?_
    exact ⟨true,p.1,vs,⟨hi,_,g,rfl,n,rfl⟩,r,fun c x=>(Hl x g fun _ q=>by cases q).symm,fun hl TO e1 e2=>(R.apart l hl _ _ (fun w=>by rw [w,e1] at H1;exact nomatch H1) hp e2).1.1,fun h' st x=>.list hp x.1⟩
end
structure ZOk (cx:Cx) (xs ys:List Val) (l1 l2:Option Nat) (hl:Nat) (z TI i1 i2:Addr) (i:Nat) (ρ:Rho) (h:Heap):Prop where
  zip:∃ TO,ρ[hl]?=some (TO,TO) /\ IsZip h z TI TO .none
  ti:h.get? TI=some (Ox [.ref i1,.ref i2] 0) /\ ¬ Av ρ TI
  it1:ZIt cx xs i1 i ρ h l1
  it2:ZIt cx ys i2 i ρ h l2
  no:¬ Av ρ z /\ ¬ Av ρ i1 /\ ¬ Av ρ i2
noncomputable def Aaz (hh:A.handled=none) (xs ys:List Val) (hlen:xs.length=ys.length) (l1 l2:Option Nat) (hl:Nat) (z TI i1 i2:Addr) (n1:i1≠z) (n2:i2≠z) (n12:i1≠i2) (elts:List Expr) (k:Nat) (pt:Pos) :
    Walk cx A (.ref z) (.Tuple elts k pt) (Du xs ys) (fun H'=>chk l1 xs H' && chk l2 ys H' && Ma hl H') where
  Ok i ρ h:=ZOk cx xs ys l1 l2 hl z TI i1 i2 i ρ h
  priv:=[z,i1,i2]
  obj:=by
    intro i ρ h ok q hq
    refine ex1 ok.zip fun TO zz=>Ac zz fun _ hz=>?_
    simp only [List.mem_cons,List.not_mem_nil,or_false] at hq
    rcases hq with rfl | rfl | rfl
    · exact ⟨Ae4 hz,ok.no.1⟩
    · exact ⟨ok.it1.obj,ok.no.2.1⟩
    · exact ⟨ok.it2.obj,ok.no.2.2⟩
  step:=by
    intro i ρ h ρ' h' ok st kk
    refine ex1 ok.zip fun TO zz=>Ac zz fun ht hz=>?_
    have kz:=kk z (by simp)
    have k1:=kk i1 (by simp)
    have k2:=kk i2 (by simp)
    have kt:=st.keepT _ _ ok.ti.1 (.inl ⟨rfl,_,_,rfl⟩) ok.ti.2
    exact ⟨⟨TO,st.get ht,kz.1 _ hz⟩,kt,ok.it1.step st k1.1,ok.it2.step st k2.1,kz.2,k1.2,k2.2⟩
  item:=by
    intro i ρ H s m Q E E' QQ R ok ck hx hb qq kk
    simp only [Bool.and_eq_true] at ck
    refine Af fun G kG=>?_
    obtain ⟨⟨ck1,ck2⟩,ck3⟩:=ck
    refine ex1 ok.zip fun TO zz=>Ac zz fun ht hz=>?_
    have H3:=Wt ck3
    refine ex3 (ok.it1.raw R ck1) fun b1 a1 vs zz=>Fo zz fun w1 r1 ne1 nt1 up1=>?_
    refine ex3 (ok.it2.raw R ck2) fun b2 a2 ws zz=>Fo zz fun w2 r2 ne2 nt2 up2=>?_
    refine Ac (R.hidAt H3 ht) fun _ zz=>ex2 zz fun x0 y0 gTO=>?_
    refine ex2 (Kk hx) fun a b zz=>An zz fun ha hb' zr4=>?_;subst zr4
    refine ex1 (r1.get ha) fun va zz=>Ac zz fun eva ra=>?_
    refine ex1 (r2.get hb') fun vb zz=>Ac zz fun evb rb=>?_
    refine kG ?_
    have oTO:Av ρ TO:=⟨_,zF ht,.inl rfl⟩
    have ne:∀ {u v:Addr},¬ Av ρ u -> Av ρ v -> v≠u:=fun n o w=>n (w▸o)
    have tiD:∀ vs',(Ox [Value.ref i1,Value.ref i2] 0).data≠.fields vs':=fun vs' q=>by cases q
    have oz:=Ae4 hz
    have o1:=ok.it1.obj
    have o2:=ok.it2.obj
    have D:ZipApart z TI TO i1 i2 a1 a2:=⟨(Hl oz ok.ti.1 tiD).symm,ne ok.no.1 oTO,n1,n2,(ne ok.ti.2 oTO).symm,(Hl o1 ok.ti.1 tiD).symm,(Hl o2 ok.ti.1 tiD).symm,ne ok.no.2.1 oTO,ne ok.no.2.2 oTO,n12,
      ne1 z oz,nt1 hl TO H3 ht,ne1 i1 o1,ne1 i2 o2,ne2 z oz,nt2 hl TO H3 ht,ne2 i1 o1,ne2 i2 o2⟩
    refine Wr (x:=va) (y:=vb) D hz ok.ti.1 gTO w1 w2 (by simpa using eva) (by simpa using evb) fun h1 hz1 hTO1 w1' w2' hT1 hk1=>qq _ _ ?_
    refine wpAny_letOwnedTupleGo_zip hz1 fun h2 hz2 hs2=>?_
    have zT:s.heap.objs.size≠z:=fun w=>by have:=Heap.lt_size hz;rw [<- w] at this;exact Nat.lt_irrefl _ this
    have keep:∀ b o,b ∉ [z,i1,i2,TO] -> s.heap.get? b=some o -> h2.get? b=some o:=fun b o nb eb=>by
      simp only [List.mem_cons,List.not_mem_nil,or_false,not_or] at nb
      exact hs2.extBut _ _ nb.1 (hk1 b o nb.1 nb.2.2.2 nb.2.1 nb.2.2.1 eb)
    have hTO2:h2.get? TO=some (Ox [va,vb] 0):=hs2.extBut _ _ D.TOz hTO1
    have hT2:h2.get? s.heap.objs.size=some (Ox [va,vb] 0):=hs2.extBut _ _ zT hT1
    have w1'':=w1'.ext hs2.extBut n1 D.l1z
    have w2'':=w2'.ext hs2.extBut n2 D.l2z
    have st:Step ρ s.heap ρ h2:=Mr (qs:=[z,i1,i2,TO]) (fun q hq=>by
      simp only [List.mem_cons,List.not_mem_nil,or_false] at hq
      rcases hq with rfl | rfl | rfl | rfl
      · exact .inr oz
      · exact .inr o1
      · exact .inr o2
      · exact .inl oTO) keep
    have ow:∀ b,Av ρ b -> b≠z /\ b≠i1 /\ b≠i2:=fun b o=>⟨ne ok.no.1 o,ne ok.no.2.1 o,ne ok.no.2.2 o⟩
    have R2:Rel cx H ρ { s with heap:=h2,toks:=s.toks }:=by
      refine R.turn ht H3 (fun b ob eb o nb _=>keep b ob (by simp only [List.mem_cons,List.not_mem_nil,or_false,not_or];exact ⟨(ow b o).1,(ow b o).2.1,(ow b o).2.2,nb⟩) eb) st (fun b o eb=>?_) (.hid hTO2)
      have nb:¬ Av ρ b:=R.base_not eb
      refine keep b o ?_ (R.base b o eb)
      simp only [List.mem_cons,List.not_mem_nil,or_false,not_or]
      refine ⟨fun w=>?_,fun w=>?_,fun w=>?_,fun w=>nb (w▸oTO)⟩
      · rw [w,hb z (by simp)] at eb;exact nomatch eb
      · rw [w,hb i1 (by simp)] at eb;exact nomatch eb
      · rw [w,hb i2 (by simp)] at eb;exact nomatch eb
    have lv:E1 s.heap h2:=fun b o eb=>by
      by_cases q:b∈[z,i1,i2,TO]
      · simp only [List.mem_cons,List.not_mem_nil,or_false] at q
        rcases q with rfl | rfl | rfl | rfl
        · exact ⟨_,hz2⟩
        · refine ex1 w1''.obj fun o zz=>Ac zz fun e _=>?_;exact ⟨o,e⟩
        · refine ex1 w2''.obj fun o zz=>Ac zz fun e _=>?_;exact ⟨o,e⟩
        · exact ⟨_,hTO2⟩
      · exact ⟨o,keep b o q eb⟩
    refine kk _ h2 s.toks R2 st (fun b o nb no eb=>keep b o (by simp only [List.mem_cons,List.not_mem_nil,or_false,not_or] at nb ⊢;exact ⟨nb.1,nb.2.1,nb.2.2,fun w=>no (w▸oTO)⟩) eb) lv ?_ ?_
    · exact .tup hT2 (R.fresh_not (Ao _)) (show 2 <= sizeLine by skip;decide) (.cons (ra.step st) (.cons (rb.step st) .nil))
    · exact ⟨⟨TO,ht,hz2⟩,st.keepT _ _ ok.ti.1 (.inl ⟨rfl,_,_,rfl⟩) ok.ti.2,up1 h2 st w1'',up2 h2 st w2'',ok.no⟩
  fin:=by
    intro i ρ H s Q E R ok ck hx hb kk
    simp only [Bool.and_eq_true] at ck
    refine Af fun G kG=>?_
    obtain ⟨⟨ck1,ck2⟩,ck3⟩:=ck
    refine ex1 ok.zip fun TO zz=>Ac zz fun ht hz=>?_
    refine ex3 (ok.it1.raw R ck1) fun b1 a1 vs zz=>Fo zz fun w1 r1 ne1 nt1 up1=>?_
    refine kG ?_
    have hn:=Jn hlen hx
    refine Ws hh n1 (ne1 z (Ae4 hz)) hz ok.ti.1 w1 (by rw [List.getElem?_eq_none_iff] at hn;have:=r1.length;simp;exact Ajn hlen this hn) fun h' keep=>?_
    have keep':∀ b o,b ∉ [z,i1] -> s.heap.get? b=some o -> h'.get? b=some o:=fun b o nb eb=>by
      simp only [List.mem_cons,List.not_mem_nil,or_false,not_or] at nb
      exact keep b o nb.1 nb.2 eb
    have st:Step ρ s.heap ρ h':=Mr (qs:=[z,i1]) (fun q hq=>by
      simp only [List.mem_cons,List.not_mem_nil,or_false] at hq
      rcases hq with rfl | rfl
      · exact .inr (Ae4 hz)
      · exact .inr ok.it1.obj) keep'
    refine kk h' s.toks (R.same st (fun b o ow eb=>keep b o (fun w=>ok.no.1 (w▸ow)) (fun w=>ok.no.2.1 (w▸ow)) eb) fun b o eb=>keep b o (fun w=>?_) (fun w=>?_) (R.base b o eb)) st fun b o nb _ eb=>keep' b o (fun w=>nb ?_) eb
    · rw [w,hb z (by simp)] at eb;exact nomatch eb
    · rw [w,hb i1 (by simp)] at eb;exact nomatch eb
    · simp only [List.mem_cons,List.not_mem_nil,or_false] at w ⊢
      rcases w with w | w
      · exact .inl w
      · exact .inr (.inl w)
end
section
variable {cx:Cx} {N:Names} {A:Around} {Φ:Funs} {l:List Env} {d:Nat} {env:Env} {sc:Scope} {ns:List (Option Str)} {Γ:Env'} {H:Hp} {ρ ρ':Rho} {s:Shared}
set_option tactic.hygienic true in
theorem Ms {v:Val} {H:Hp} {xs:List Val} {l:Nat} (h:Hb v H=some (xs,l)):v=.loc l /\ H[l]?=some (.list xs):=by
  unfold Hb at h
  split at h
  · split at h
    · rename_i hl;cases h;exact ⟨rfl,hl⟩
    · exact Ae h
  · exact Ae h
theorem Aa0:(("zip":Str),Value.type "zip")∈Gp:=by
  unfold Gp
  repeat (first | exact List.Mem.head _ | apply List.Mem.tail)
noncomputable abbrev loopK (cx:Cx) (A:Around) (env:Env) (target:Expr) (stmts:List Stmt) (zv:Value):(Flow -> Shared -> Prop) -> (Value -> Shared -> Prop) -> Shared -> Prop:=fun Q E s =>
  wpAny (model cx.prog cx.w) A (pyIter zv) (fun it s₂=>codeAny (model cx.prog cx.w) A (.forLoop target it stmts [] env) (fun r s'=>match r with | .ok f=>Q f s' | .error e=>cameBackBy (model cx.prog cx.w) A env E e s') s₂) E s
theorem Kl {target:Expr} {stmts:List Stmt} {zv:Value}:P9 (loopK cx A env target stmts zv):=by
  intro Q E Q' E' s h k1 k2
  exact zE h (fun it s₂ h2=>codeAny_mono h2 fun r s' hr=>by
    cases r with
    | ok f=>exact k1 _ _ hr
    | error e=>exact Hk hr k2) k2
theorem Wu {v w:Val} {H:Hp} {xs ys:List Val} {l1 l2:Option Nat} (h:L9 v w H=some ((xs,l1),(ys,l2))):∃ k1 k2,v=.loc k1 /\ w=.loc k2 /\ l1=some k1 /\ l2=some k2 /\ H[k1]?=some (.list xs) /\ H[k2]?=some (.list ys):=by
  unfold L9 at h
  cases h1:Hb v H with
  | none=>rw [h1] at h;exact Ae h
  | some p =>
    cases h2:Hb w H with
    | none=>rw [h1,h2] at h;exact Ae h
    | some q =>
      rw [h1,h2] at h
      cases h
      obtain ⟨hr0,g1⟩:=Ms (l:=p.2) h1;refine Eq.symm hr0▸?_
      obtain ⟨hr1,g2⟩:=Ms (l:=q.2) h2;refine Eq.symm hr1▸?_
      exact ⟨_,_,rfl,rfl,rfl,rfl,g1,g2⟩
theorem Wv {v w:Val} {va vb:Value} {xs ys:List Val} {l1 l2:Option Nat} (R:Rel cx H ρ s) (r1:VR cx ρ s.heap v va) (r2:VR cx ρ s.heap w vb) (hz:L9 v w H=some ((xs,l1),(ys,l2))) {Q:Value -> Shared -> Prop} {E:Value -> Shared -> Prop}
    (k:∀ h3,IsZip h3 (s.heap.objs.size+4) (s.heap.objs.size+2) (s.heap.objs.size+3) .none -> IsPair h3 (s.heap.objs.size+2) (.ref s.heap.objs.size) (.ref (s.heap.objs.size+1)) -> IsPair h3 (s.heap.objs.size+3) .none .none -> (∀ c o,s.heap.get? c=some o -> h3.get? c=some o) ->
      (∀ ρ',Full ρ s.heap ρ' h3 -> ZIt cx xs s.heap.objs.size 0 ρ' h3 l1 /\ ZIt cx ys (s.heap.objs.size+1) 0 ρ' h3 l2) -> Q (.ref (s.heap.objs.size+4)) { s with heap:=h3 }):wpAny (model cx.prog cx.w) A (call (.type "zip") [va,vb]) Q E s:=by
  refine Af fun G kG=>?_
  refine ex2 (Wu hz) fun k1 k2 zz=>Lz zz fun zr2 zr3 zr4 zr5 g1 g2=>?_;subst zr2;subst zr3;subst zr4;subst zr5
  refine ex1 r1.loc_inv fun p1 zz=>Ac zz fun e1 zr2=>?_;subst zr2
  refine ex1 r2.loc_inv fun p2 zz=>Ac zz fun e2 zr2=>?_;subst zr2
  refine ex2 (R.listAt g1 e1) fun vs nv zz=>Cm zz fun pp1 h1 u1 z1=>?_
  refine ex2 (R.listAt g2 e2) fun ws nw zz=>Cm zz fun pp2 h2 u2 z2=>?_
  refine kG ?_
  refine call_zip_2 (xs:=vs.toArray) (ys:=ws.toArray) ⟨_,h1,rfl,nv,rfl⟩ ⟨_,h2,rfl,nw,rfl⟩ fun h3 hz3 hTI3 hTO3 hi1 hi2 hsz kp=>?_
  exact k h3 hz3 hTI3 hTO3 kp fun ρ' F=>⟨.list (F.grow.get e1) hi1,.list (F.grow.get e2) hi2⟩
theorem N5 (B:Base cx N) {i j:Nat} {a b:ME} {body:MSs} {y z f:Str} {p q:Expr} {stmts:List Stmt} {py pz pt fp cp pos:Pos} {kk:Nat} (hh:A.handled=none) (hfr:A.frames=some (env :: l)) (ha:C3 ns) (hy:Fm sc ns i y=true) (hz:Fm sc ns j z=true)
    (hg:Bs sc f=true) (hf:f=("zip":Str)) (np:Hx p=true) (nq:Hx q=true)
    (hp:∀ Γ:Env',Γ.length=ns.length -> EOk cx A ((Amb.env cx env sc ns Γ).and (Amb.frames cx (env :: l))) Φ env Γ a p) (hq:∀ Γ:Env',Γ.length=ns.length -> EOk cx A ((Amb.env cx env sc ns Γ).and (Amb.frames cx (env :: l))) Φ env Γ b q)
    (hb:Gv cx A (env :: l) env sc ns (execs stmts env) (execSs cx.T Φ body)) :
    Gv cx A (env :: l) env sc ns (exec (.For (.Tuple [.Name y py,.Name z pz] kk pt) (.Call (.Name f fp) [p,q] [] cp) stmts [] pos) env) (Da cx.T Φ (.eachZip i j a b body)):=by
  refine Af fun G kG=>?_
  refine ex2 B.ns fun mg mb zz=>Lz zz fun ng nb' _ _ _ tab=>?_
  have q12:mg ("zip":Str)=none /\ mb ("zip":Str)=some (.type "zip"):=tab _ Aa0
  obtain ⟨q1,q2⟩:=q12
  refine kG ?_
  rw [<- hf] at q1 q2
  intro Γ H ρ s R e0 fr
  refine Bz.to ?_
  refine Bt.bindK (K:=fun va Q E s=>wpAny (model cx.prog cx.w) A (eval q env) (fun vb s'=>wpAny (model cx.prog cx.w) A (call (.type "zip") [va,vb]) (fun zv s''=>loopK cx A env (.Tuple [.Name y py,.Name z pz] kk pt) stmts zv Q E s'') E s') E s) e0 ((hp Γ e0.len).val H ρ s R ⟨e0,fr⟩) ?_ ?_ ?_
  · intro v va H1 ρ1 s1 _ F1 R1 e1 vr1
    have fr1:Aw cx (env :: l) ρ1 s1.heap:=fr.full F1
    refine Bt.bindK (K':=fun Q E s=>wpAny (model cx.prog cx.w) A (eval q env) (fun vb s'=>wpAny (model cx.prog cx.w) A (call (.type "zip") [va,vb]) (fun zv s''=>loopK cx A env (.Tuple [.Name y py,.Name z pz] kk pt) stmts zv Q E s'') E s') E s)
      (K:=fun vb Q E s=>wpAny (model cx.prog cx.w) A (call (.type "zip") [va,vb]) (fun zv s''=>loopK cx A env (.Tuple [.Name y py,.Name z pz] kk pt) stmts zv Q E s'') E s) e1 ((hq Γ e1.len).val H1 ρ1 s1 R1 ⟨e1,fr1⟩) ?_ ?_ fun Q E h=>h
    · intro w vb H2 ρ2 s2 _ F2 R2 e2 vr2
      have fr2:Aw cx (env :: l) ρ2 s2.heap:=fr1.full F2
      have vr1':VR cx ρ2 s2.heap v va:=vr1.step F2.step
      refine Bz.look fun pr h1=>?_
      obtain ⟨⟨xs,l1⟩,ys,l2⟩:=pr
      dsimp only
      by_cases hlen:xs.length=ys.length
      · rw [if_pos hlen]
        refine Bz.ofPost fun Q E nb p=>?_
        refine Wv R2 vr1' vr2 h1 fun h3 hz3 hTI3 hTO3 kp zit=>?_
        refine wpAny_pyIter_zip hz3 ?_
        have fresh:∀ k,s2.heap.get? (s2.heap.objs.size+k)=none:=fun k=>Ge (zM _ _)
        obtain ⟨F3,R3⟩:=R2.alloc (tk:=s2.toks) (o:=.hid) (p:=(s2.heap.objs.size+3,s2.heap.objs.size+3)) kp ⟨fresh 3,fresh 3⟩ (.hid hTO3)
        have nof:∀ k,k≠3 -> ¬ Av (ρ2++[(s2.heap.objs.size+3,s2.heap.objs.size+3)]) (s2.heap.objs.size+k):=fun k hk ⟨p,hp,h⟩=>by
          rcases List.mem_append.mp hp with hp | hp
          · exact R2.fresh_not (fresh k) ⟨p,hp,h⟩
          · rw [List.mem_singleton.mp hp] at h
            have:s2.heap.objs.size+k=s2.heap.objs.size+3:=by rcases h with h | h <;> exact h
            exact hk (Nat.add_left_cancel this)
        obtain ⟨z1,z2⟩:=zit _ F3
        refine Pe (Aaz hh xs ys hlen l1 l2 H2.length (s2.heap.objs.size+4) (s2.heap.objs.size+2) s2.heap.objs.size (s2.heap.objs.size+1) (Nat.ne_of_lt (by exact Ajo)) (Nat.ne_of_lt (by exact Ajp)) (Nat.ne_of_lt (Nat.lt_succ_self _)) [.Name y py,.Name z pz] kk pt) hfr (Ta hh ha hy hz) hb e2 fr2 (fun b o e=>⟨o,R2.base b o e⟩) ?_ F3.toS R3 (e2.full F3) ?_ nb p
        · intro q hq
          have hq':q=s2.heap.objs.size+4 \/ q=s2.heap.objs.size \/ q=s2.heap.objs.size+1:=by
            have hq2:q∈[s2.heap.objs.size+4,s2.heap.objs.size,s2.heap.objs.size+1]:=hq
            simpa using hq2
          rcases hq' with rfl | rfl | rfl
          · exact fresh 4
          · exact fresh 0
          · exact fresh 1
        · exact ⟨⟨_,by rw [R2.len,List.getElem?_append_right (zI _)];simp,hz3⟩,⟨hTI3,nof 2 (by decide)⟩,z1,z2,nof 4 (by decide),nof 0 (by decide),nof 1 (by decide)⟩
      · rw [if_neg hlen];trivial
    · intro vb Q E Q' E' s h k1 k2
      exact zE h (fun zv s'' h'=>Kl _ _ _ _ _ h' k1 k2) k2
  · intro va Q E Q' E' s h k1 k2
    exact zE h (fun vb s' h'=>zE h' (fun zv s'' h''=>Kl _ _ _ _ _ h'' k1 k2) k2) k2
  · intro Q E h
    refine wpAny_For ?_ (fun xv=>rfl)
    refine wpAny_Call_ofName (wp_glob R e0.st hg ng nb' (v:=.type "zip") (.inr ⟨q1,q2⟩) ?_)
    have pl:B7 env [p,q]:=⟨Br np,Br nq,trivial⟩
    rw [Ap cp pl]
    refine PyProof.Rows.callWith_type (Di _) (Calls.evalArgs_plain (Calls.spliced_cons (zE h (fun v s' h'=>?_) fun _ _ q=>q)))
    exact Calls.spliced_cons (zE h' (fun w s'' h''=>Calls.spliced_nil h'') fun _ _ q=>q)
structure EnOk (cx:Cx) (xs:List Val) (l1:Nat) (e it:Addr) (i:Nat) (ρ:Rho) (h:Heap):Prop where
  en:∃ old,IsEnum h e it i old
  it1:∃ p,ρ[l1]?=some p /\ h.IsListIter it p.1 i
  no:¬ Av ρ e /\ ¬ Av ρ it
end
section
variable {cx:Cx} {N:Names} {A:Around} {Φ:Funs} {l:List Env} {d:Nat} {env:Env} {sc csc:Scope} {ns:List (Option Str)} {Γ:Env'} {H:Hp} {ρ ρ':Rho} {s:Shared}
theorem Jo {m:ME} {x:Expr} {t:Option Expr} {ln:Nat} (h:ck N sc ns m x=true) (hm:∀ a b c,m≠.comp a b c):swapsWith x t ln env=pure false:=by
  have z:=Si h
  have hc:Ym m=false:=by cases m <;> first | rfl | exact absurd rfl (hm _ _ _)
  rw [hc] at z
  cases x <;> first | rfl | exact Am z
theorem Qm {x:Expr} {y:Str} {py:Pos} {ln:Nat}:swapsWith x (some (.Name y py)) ln env=pure true \/ swapsWith x (some (.Name y py)) ln env=pure false:=by
  have:∃ b,swapsWith x (some (.Name y py)) ln env=pure b:=by cases x <;> exact ⟨_,rfl⟩
  obtain ⟨b,e⟩:=this
  cases b
  · exact .inr e
  · exact .inl e
theorem Do {i:Nat} {m:ME} {y:Str} {x:Expr} {py pos:Pos} (ha:C3 ns) (ho:Fm sc ns i y=true) (hs:swapsWith x (some (.Name y py)) pos.line env=pure false)
    (hx:∀ Γ:Env',Γ.length=ns.length -> EOk cx A ((Amb.env cx env sc ns Γ).and (Amb.frames cx l)) Φ env Γ m x) :
    Gv cx A l env sc ns (exec (.Assign [.Name y py] x pos) env) (Da cx.T Φ (.assign i m)):=by
  intro Γ H ρ s R e0 fr
  refine Bz.to (Bt.bindK (K:=fun v Q E s=>wpAny (model cx.prog cx.w) A (storeName env y v) (fun _=>Q .next) E s) e0 ((hx Γ e0.len).val H ρ s R ⟨e0,fr⟩) (fun b v H1 ρ1 s1 _ F1 R1 e1 vr=>S6 ha R1 e1 ho vr) (fun _=>N4) fun Q E h=>wpAny_Assign_Name h hs)
theorem Jp (hh:A.handled=none) {i:Nat} {elt it:ME} {cond:MEo} {e x:Expr} {t y:Str} {ifs:List Expr} {tp py cp pos:Pos} (ha:C3 ns) (ho:Fm sc ns i y=true) (hs:swapsWith (.ListComp e [⟨.Name t tp,x,ifs,0⟩] csc cp) (some (.Name y py)) pos.line env=pure true) (hi:Ed x=true) (hc:Ji sc csc t=true)
    (pt:CParts cx A Φ l csc (D0 csc ns++[some t]) cond elt ifs e) (hx:∀ Γ:Env',Γ.length=ns.length -> EOk cx A ((Amb.env cx env sc ns Γ).and (Amb.frames cx l)) Φ env Γ it x) :
    Gv cx A l env sc ns (exec (.Assign [.Name y py] (.ListComp e [⟨.Name t tp,x,ifs,0⟩] csc cp) pos) env) (Da cx.T Φ (.assign i (.comp elt it cond))):=by
  refine An (By hc) fun c1 c2 c3=>?_
  intro Γ H ρ s R e0 fr
  rw [Rn,Mo]
  have assoc:∀ (m:M Val) (f:Val -> M Val) (g:Val -> Hp -> ResS) (H:Hp),Gl (m.bnd f) Γ g H=Gl m Γ (fun v=>Gl (f v) Γ g) H:=by
    intro m f g H
    unfold Gl M.bnd
    cases m H <;> rfl
  rw [assoc]
  refine Bz.to (Bt.bindK (K:=fun xv Q E s=>wpAny (model cx.prog cx.w) A (pyIter xv) (fun it s₂=>wpAny (model cx.prog cx.w) A (newList []) (fun acc s₃=>wpAny (model cx.prog cx.w) A (newFunctionEnv csc env.globals (Fn env csc.names []) [] env.qual none .none (some env)) (fun cenv s₄ =>
      codeAny (model cx.prog cx.w) A (.compStart (.ListComp e [⟨.Name t tp,x,ifs,0⟩] csc cp) 0 it acc { cenv with scope:=relabel csc env }) (compPost (model cx.prog cx.w) A E (some (assign (.Name y py) env)) (fun _ s'=>Q .next s') acc cenv.locals) s₄) E s₃) E s₂) E s) e0 ((hx Γ e0.len).val H ρ s R ⟨e0,fr⟩) ?_ ?_ ?_)
  · intro v xv H1 ρ1 s1 _ F1 R1 e1 vr
    rcases Gs (T:=cx.T) (Φ:=Φ) (cond:=cond) (elt:=elt) (Γ:=Γ) (v:=v) (H:=H1) with w | ⟨xs,src,ys,H₂,w1,w2,w3,w4⟩
    · unfold Gl;rw [w];trivial
    · unfold Gl;rw [w4]
      refine Kj hh hc ha e1.len pt R1 e1 ((Amb.frames cx l).st _ _ _ _ fr F1) vr w1 w2 w3 fun D C ρ' s' F' R' v' m' n' hC=>?_
      obtain ⟨m,hm⟩:=m'
      have e':=e1.full F'
      have lvB:E1 cx.h₀ s1.heap:=fun b o e=>⟨o,R1.base b o e⟩
      refine wpAny_assign_Name (D7 e'.len ha R' e' ho v' fun h2 tk2 F2 R2 e2 hq=>?_)
      refine Af fun G kG=>?_
      refine ex2 hq fun q oq zz=>An zz fun hqd hqs gq=>?_
      have live:∀ {b:Addr},(∃ o,s1.heap.get? b=some o) -> b≠C:=fun ⟨o,eo⟩ w=>by rw [w,hC] at eo;exact Ae eo
      have locL:env.locals≠C:=live (by refine ex1 e1.st.loc fun m zz=>ex3 zz fun o es ep zz=>Ac zz fun e _=>?_;exact ⟨o,e⟩)
      have celL:∀ z c,env.cells.lookup z=some c -> c≠C:=fun z c hc=>live (by obtain ⟨⟨v,o,e,_⟩,_⟩:=e1.st.cells z c hc;exact ⟨o,e⟩)
      have qC:C≠q:=by
        rcases hqd with ⟨_,rfl⟩ | ⟨_,w⟩
        · exact locL.symm
        · exact (celL y q w).symm
      have hm2:h2.Ns C m:=Bh hm fun o eo=>⟨o,by rw [hqs.2 C qC];exact eo,rfl⟩
      refine ex1 (S3 hm2) fun oC zz=>An zz fun gC nf nx=>?_
      refine kG ?_
      refine ⟨m,hm2,fun h3 hs3=>?_⟩
      have st:Step ρ' h2 ρ' h3:=Step.ext gC hs3.extBut nf nx
      have FF:FullS env ρ1 s1.heap ρ' h2:=F'.toS.trans F2
      refine ⟨rfl,ρ',?_,R2.ext (tk:=tk2) gC hs3.extBut nf nx n' (lvB.none hC),e2.but hs3.extBut locL.symm (fun z w=>celL z C w rfl) st⟩
      refine ⟨FF.grow,fun b o eb n n1 n2=>?_,fun b o eb=>?_⟩
      · refine ex1 (FF.keep b o eb n n1 n2) fun o' zz=>Ac zz fun e' u=>?_
        exact ⟨o',hs3.extBut b o' (live ⟨o,eb⟩) e',u⟩
      · obtain ⟨o',e'⟩:=FF.live b o eb
        exact ⟨o',hs3.extBut b o' (live ⟨o,eb⟩) e'⟩
  · intro xv Q E Q' E' s h k1 k2
    exact zE h (fun it s₂ h2=>zE h2 (fun acc s₃ h3=>zE h3 (fun cenv s₄ h4=>codeAny_mono h4 fun r s' hr=>Hj hr (fun _ s=>k1 _ s) k2) k2) k2) k2
  · intro Q E h
    rw [exec_Assign_Name_used _ _ _ _ hs]
    refine zB (wpAny_standAt (zB ?_))
    show wpAny _ A (do let _ <- comprehension (.ListComp e [⟨.Name t tp,x,ifs,0⟩] csc cp) csc env _ (newList []) false (eval x env) (some (assign (.Name y py) env))) _ _ s
    refine zB (zE (wpAny_comprehension_free (use:=some (assign (.Name y py) env)) (Q:=fun _ s'=>Q .next s') (g:=⟨.Name t tp,x,ifs,0⟩) (gs:=[]) rfl (fun xv=>Fu hi env xv)
      (Hi fun p' hp' hf=>e0.st.hasCell p'.1 (by rcases (c3 p' hp').2 hf with w | w;exact .inl w;exact .inr w)) c1 (fun p' hp' hl=>by rw [(c3 p' hp').1,hl]) h) (fun _ s' hq=>zH (zH hq)) fun _ _ e=>e)
theorem Qn (G:Ground cx N A Φ l d) {i:Nat} {m:ME} {y:Str} {x:Expr} {py pos:Pos} (ha:C3 ns) (ho:Fm sc ns i y=true) (hm:ck N sc ns m x=true) :
    Gv cx A l env sc ns (exec (.Assign [.Name y py] x pos) env) (Da cx.T Φ (.assign i m)):=by
  rcases Qm (env:=env) (x:=x) (y:=y) (py:=py) (ln:=pos.line) with hs | hs
  · by_cases hc:∃ a b c,m=.comp a b c
    · refine ex3 hc fun elt it cond zr3=>?_;subst zr3
      refine ex7 (O5 hm) fun el t px i' ifs csc cp zz=>Lz zz fun zr7 h1 h2 h3 h4 h5=>?_;subst zr7
      exact Jp G.room.hh ha ho hs h2 h3 ⟨fun cenv Γ' hΓ'=>econd G cond ifs cenv csc _ Γ' h5 (Fv ha (By h3).2.1) hΓ',fun cenv Γ' hΓ'=>(eok G elt el cenv csc _ Γ' h4 (Fv ha (By h3).2.1) hΓ').val⟩
        fun Γ hΓ=>eok G it i' env sc ns Γ h1 ha hΓ
    · have:=Jo (env:=env) (t:=some (.Name y py)) (ln:=pos.line) hm fun a b c w=>hc ⟨a,b,c,w⟩
      exact Do ha ho this fun Γ hΓ=>eok G m x env sc ns Γ hm ha hΓ
  · exact Do ha ho hs fun Γ hΓ=>eok G m x env sc ns Γ hm ha hΓ
end
section
variable {cx:Cx} {N:Names} {A:Around} {Φ:Funs} {l:List Env} {d:Nat} {env:Env} {sc:Scope} {ns:List (Option Str)} {Γ:Env'} {H:Hp} {ρ:Rho} {s:Shared}
theorem Qo {v m:Val} {n:Nat} {u:Unit} {H':Hp} (h:Bp v n m H=.ok u H'):∃ i c fs,v=.loc i /\ H[i]?=some (.inst c fs) /\ H'=H.set i (.inst c (Rh fs n m)):=by
  unfold Bp at h
  split at h
  · split at h
    · cases h;exact ⟨_,_,_,rfl,by assumption,rfl⟩
    · exact D4 h
  · exact D4 h
theorem Lb {v m:Val} {n c:Nat} {H':Hp} (h:Bp v n m H=.exc c H'):False:=by
  unfold Bp at h
  split at h
  · split at h <;> cases h
  · cases h
theorem Qp {x p:Expr} {y:Str} {q:Pos} {ln:Nat}:swapsWith x (some (.Attribute p y q)) ln env=pure false:=by cases x <;> rfl
theorem N6 (G:Ground cx N A Φ l d) {o e:ME} {n:Nat} {p x:Expr} {y:Str} {q pos:Pos} (ha:C3 ns) (hx:ck N sc ns e x=true) (hp:ck N sc ns o p=true) (hn:Dz N.attrs y n=true) :
    Gv cx A l env sc ns (exec (.Assign [.Attribute p y q] x pos) env) (Da cx.T Φ (.setattr o n e)):=by
  intro Γ H ρ s R e0 fr
  refine Bz.to (Bt.bindK (K:=fun v Q E s=>wpAny (model cx.prog cx.w) A (eval p env) (fun ov s₂=>wpAny (model cx.prog cx.w) A (setAttr ov y v) (fun _=>Q .next) E s₂) E s) e0 ((eok G e x env sc ns Γ hx ha e0.len).val H ρ s R ⟨e0,fr⟩) ?_ ?_ fun Q E h=>plainObj_wpAny_Assign_Attribute h Qp)
  · intro b v H1 ρ1 s1 _ F1 R1 e1 vr
    refine Bt.bindK (K:=fun ov Q E s=>wpAny (model cx.prog cx.w) A (setAttr ov y v) (fun _=>Q .next) E s) e1 ((eok G o p env sc ns Γ hp ha e1.len).val H1 ρ1 s1 R1 ⟨e1,fr.full F1⟩) ?_ ?_ (fun Q E h=>h)
    · intro b2 ov H2 ρ2 s2 _ F2 R2 e2 vo
      have vo':VR cx ρ2 s2.heap b2 ov:=vo
      unfold Gl
      cases hr:Bp b2 n b H2 with
      | bad=>trivial
      | exc c H3=>exact (Lb hr).elim
      | ok u H3 =>
        refine ex3 (Qo hr) fun i c fs zz=>An zz fun zr3 hi zr5=>?_;subst zr3;subst zr5
        refine ex1 vo'.loc_inv fun p1 zz=>Ac zz fun hp1 hr0=>?_;refine Eq.symm hr0▸?_
        exact Qj G.base.cls R2 hi hp1 (G.base.cls.attr y n (Co hn)) (VR.step F2.step vr) fun s' F R'=>⟨rfl,ρ2,F.toS,R',e2.full F⟩
    · exact fun _ Q E Q' E' s h k1 k2=>zE h (fun _ _=>k1 _ _) k2
  · exact fun _ Q E Q' E' s h k1 k2=>zE h (fun _ _ h'=>zE h' (fun _ _=>k1 _ _) k2) k2
theorem Tb (G:Ground cx N A Φ (env :: l) d) {c:ME} {b:MSs} {x:Expr} {ts:List Stmt} {pos:Pos} (ha:C3 ns) (hc:ck N sc ns c x=true) (hb:Gv cx A (env :: l) env sc ns (execs ts env) (execSs cx.T Φ b)) :
    Gv cx A (env :: l) env sc ns (exec (.While x ts [] pos) env) (Da cx.T Φ (.loop c b)):=by
  intro Γ₀ H₀ ρ₁ s₁ R₀ e₁ fr
  rw [Zp]
  refine Bz.to (Bz.ofPost fun Q E nb p=>wpAny_While ?_)
  generalize hres:Im (fun Γ=>(Ak cx.T Φ c Γ).bnd C1) (execSs cx.T Φ b) Nl Γ₀ H₀=res at nb p
  refine codeAny_whileLoop (fun n s=>∃ Γ H ρ,FullS env ρ₁ s₁.heap ρ s.heap /\ Rel cx H ρ s /\ EnvOk cx env sc ns Γ ρ s.heap /\ Im (fun Γ=>(Ak cx.T Φ c Γ).bnd C1) (execSs cx.T Φ b) n Γ H=res) ?_ Nl ⟨Γ₀,H₀,ρ₁,FullS.refl _ _ _,R₀,e₁,hres⟩
  intro n s zz
  refine ex3 zz fun Γ H ρ zz=>Cm zz fun F R e0 hr=>?_
  cases n with
  | zero=>exact absurd hr.symm nb
  | succ n =>
    rw [Jd] at hr
    have fr0:Aw cx (env :: l) ρ s.heap:=fr.stmt F e₁.st e0.st
    have C:=(eok G c x env sc ns Γ hc ha e0.len).tru H ρ s R ⟨e0,fr0⟩
    cases hcd:((Ak cx.T Φ c Γ).bnd C1) H with
    | bad=>rw [hcd] at hr;exact absurd hr.symm nb
    | exc k H1=>rw [hcd] at hr;exact absurd hr.symm nb
    | ok t H1 =>
      rw [hcd] at hr C
      refine zE C (fun t' s2 ⟨ρ2,F2,R2,ht⟩=>?_) fun _ _ q=>q.elim
      have ht':t'=t:=ht
      subst ht'
      have e2:=e0.full F2
      have F12:=F.trans F2.toS
      cases t' with
      | false =>
        dsimp only at hr
        subst hr
        exact wpAny_execs_nil (p s2 ρ2 F12 R2 e2)
      | true =>
        dsimp only at hr
        rw [if_pos rfl]
        have B:=hb Γ H1 ρ2 s2 R2 e2 (fr0.full F2)
        cases hbd:execSs cx.T Φ b Γ H1 with
        | bad=>rw [hbd] at hr;exact absurd hr.symm nb
        | exc k Γ3 H3=>rw [hbd] at hr;exact absurd hr.symm nb
        | next Γ3 H3 =>
          rw [hbd] at hr B
          refine zE B (fun f s3 q=>?_) fun _ _ q=>q.elim
          refine Ac q fun zr0 zz=>ex1 zz fun ρ3 zz=>An zz fun F3 R3 e3=>?_;subst zr0
          exact ⟨n,Nat.lt_succ_self n,Γ3,H3,ρ3,F12.trans F3,R3,e3,hr⟩
        | ret v H3 =>
          rw [hbd] at hr B
          subst hr
          refine zE B (fun f s3 q=>?_) fun _ _ q=>q.elim
          refine Af fun G kG=>?_
          refine ex2 q fun v' ρ3 zz=>Cm zz fun zr2 F3 R3 vr3=>?_;subst zr2
          refine kG ?_
          exact p s3 ρ3 v' (F12.trans F3) R3 vr3
end
section
variable {cx:Cx} {N:Names} {A:Around} {Φ:Funs} {l:List Env} {d:Nat} {env:Env} {sc:Scope} {ns:List (Option Str)} {Γ:Env'} {H:Hp} {ρ:Rho} {s:Shared}
set_option maxRecDepth 100000 in
theorem Qq {a:Addr} {vs:List Value} {n:Nat} {k:Int} {t:Tok} {v:Value} {Q:Unit -> Shared -> Prop} {E:Value -> Shared -> Prop} (g:s.heap.get? a=some (Bq vs n)) (h0:0 <= k) (hk:k < vs.length) (hf:k < 2 ^ 63)
    (hQ:Q () { s with heap:=s.heap.update a (Obj.mapSeq (·.setIfInBounds k.toNat v)) }):wpAny (model cx.prog cx.w) A (setItem (.ref a) (.int k t) v) Q E s:=by
  have hl:s.heap.IsList a vs.toArray:=⟨_,g,rfl,n,rfl⟩
  unfold setItem
  try with_reducible refine wpAny_holding ?_
  first | refine zB (zH ?_) | skip
  refine zB (wpAny_sequenceKey hl.typeIs (by decide) ?_)
  refine zB (wpAny_callSpecial?_slot (name:=Str.ofString "__setitem__") hl.typeIs slot_list_setitem (wpAny_call_entry slot_list_setitem hl.typeIs entry_list_setitem ?_ (args_list_setitem _ _ _)))
  show wpAny _ _ (Builtin.List.listSubscript? (.int k t)>>=_) _ _ s
  refine zB (wpAny_listSubscript_int (fitsIndex_of h0 hf) ?_)
  clear hf
  obtain ⟨j,rfl⟩:=Int.eq_ofNat_of_zero_le h0
  have hj:j < vs.toArray.size:=by simp only [List.size_toArray];exact X9 hk
  have hx':vs.toArray[j]?=some vs.toArray[j]:=Array.getElem?_eq_getElem hj
  refine zB (zB (wpAny_seqItemAt g rfl (zH ?_)))
  rw [hx']
  refine zB (wpAny_setSeqItemAt g rfl ?_)
  first
    | exact zB (zH (zH ⟨.none,rfl,zH hQ⟩))
    | exact zH ⟨.none,rfl,zH hQ⟩
theorem VRs.setArr {xs:List Val} {vs:List Value} {m:Val} {v:Value} {h:Heap} (r:VRs cx ρ h xs vs) (k:Nat) (a:VR cx ρ h m v):VRs cx ρ h (xs.set k m) (vs.toArray.setIfInBounds k v).toList:=by
  have:(vs.toArray.setIfInBounds k v).toList=vs.set k v:=by simp
  rw [this];exact r.set k a
set_option tactic.hygienic true in
theorem Qr {o i m:Val} {u:Unit} {H':Hp} (h:A3 o i m H=.ok u H'):∃ l,o=.loc l /\ ((∃ xs k,H[l]?=some (.list xs) /\ i=.int k /\ 0 <= k /\ k < xs.length /\ H'=H.set l (.list (xs.set k.toNat m))) \/
    ∃ es k,H[l]?=some (.dict es) /\ Er i=some k /\ es.length < lid /\ H'=H.set l (.dict (Gk es k m))):=by
  unfold A3 at h
  split at h
  · rename_i l
    split at h
    · rename_i xs hl
      split at h
      · rename_i k
        by_cases q:0 <= k /\ k < xs.length
        · rw [if_pos q] at h;cases h;exact ⟨l,rfl,.inl ⟨xs,k,hl,rfl,q.1,q.2,rfl⟩⟩
        · rw [if_neg q] at h;exact D4 h
      · exact D4 h
    · rename_i es hl
      split at h
      · rename_i k hk
        by_cases q:es.length < lid
        · rw [if_pos q] at h;cases h;exact ⟨l,rfl,.inr ⟨es,k,hl,hk,q,rfl⟩⟩
        · rw [if_neg q] at h;exact D4 h
      · exact D4 h
    · exact D4 h
  · exact D4 h
theorem Lc {o i m:Val} {c:Nat} {H':Hp} (h:A3 o i m H=.exc c H'):False:=by
  unfold A3 at h
  split at h
  · split at h
    · split at h
      · split at h <;> cases h
      · cases h
    · split at h
      · split at h <;> cases h
      · cases h
    · cases h
  · cases h
theorem Qs (hu:A.units+100 < cLine) (R:Rel cx H ρ s) {l:Nat} {p:Addr × Addr} {es:List (Key × Val)} {i m:Val} {k:Key} {iv v:Value} {Q:Unit -> Shared -> Prop} {E:Value -> Shared -> Prop} (hp:ρ[l]?=some p) (hl:H[l]?=some (.dict es)) (hk:Er i=some k) (q:es.length < lid)
    (xi:VR cx ρ s.heap i iv) (xm:VR cx ρ s.heap m v) (hQ:∀ h' tk,Full ρ s.heap ρ h' -> Rel cx (H.set l (.dict (Gk es k m))) ρ { s with heap:=h',toks:=tk } -> Q () { s with heap:=h',toks:=tk }):wpAny (model cx.prog cx.w) A (setItem (.ref p.1) iv v) Q E s:=by
  refine Af fun G kG=>?_
  refine ex1 (R.dictAt hl hp) fun xs zz=>Cm zz fun hpp D rr z=>?_
  refine ex1 (Oz xi hk) fun bb zz=>An zz fun zr1 hb no=>?_;subst zr1
  refine kG ?_
  refine wpAny_setItem_heap (knd:=cellKind cx) (tupleKind_room_in1 (by exact o9 hu)) hb D (fun h' hm hs=>?_) (by rw [rr.length];exact z)
  refine Af fun G kG=>?_
  refine ex3 D fun _ _ _ zz=>Lz zz fun _ _ _ _ ks nd=>?_
  rw [Ee] at q
  obtain ⟨F,R'⟩:=V5 (tk:=s.toks+(cellKind cx).draws [k.1,k.2]) R hp hpp hm hs (Nu ks hb) (rr.put nd xm (show VR cx ρ s.heap (.tup [.int k.1,.int k.2]) (.ref bb) from Yd hk▸xi)) (zC (Nv es k m) q)
  refine kG ?_
  exact hQ h' _ F R'
theorem Qt {x p i:Expr} {q:Pos} {ln:Nat}:swapsWith x (some (.Subscript p i q)) ln env=pure false:=by cases x <;> rfl
theorem N7 (G:Ground cx N A Φ l d) {o i e:ME} {p j x:Expr} {q pos:Pos} (ha:C3 ns) (hx:ck N sc ns e x=true) (hp:ck N sc ns o p=true) (hi:ck N sc ns i j=true) :
    Gv cx A l env sc ns (exec (.Assign [.Subscript p j q] x pos) env) (Da cx.T Φ (.setitem o i e)):=by
  intro Γ H ρ s R e0 fr
  refine Bz.to (Bt.bindK (K:=fun v Q E s=>wpAny (model cx.prog cx.w) A (eval p env) (fun ov s₂=>wpAny (model cx.prog cx.w) A (eval j env) (fun iv s₃=>wpAny (model cx.prog cx.w) A (setItem ov iv v) (fun _=>Q .next) E s₃) E s₂) E s) e0 ((eok G e x env sc ns Γ hx ha e0.len).val H ρ s R ⟨e0,fr⟩) ?_ ?_ fun Q E h=>wpAny_Assign_Subscript h Qt)
  · intro b v H1 ρ1 s1 _ F1 R1 e1 vr
    refine Bt.bindK (K:=fun ov Q E s=>wpAny (model cx.prog cx.w) A (eval j env) (fun iv s₃=>wpAny (model cx.prog cx.w) A (setItem ov iv v) (fun _=>Q .next) E s₃) E s) e1 ((eok G o p env sc ns Γ hp ha e1.len).val H1 ρ1 s1 R1 ⟨e1,fr.full F1⟩) ?_ ?_ (fun Q E h=>h)
    · intro b2 ov H2 ρ2 s2 _ F2 R2 e2 vo
      refine Bt.bindK (K:=fun iv Q E s=>wpAny (model cx.prog cx.w) A (setItem ov iv v) (fun _=>Q .next) E s) e2 ((eok G i j env sc ns Γ hi ha e2.len).val H2 ρ2 s2 R2 ⟨e2,(fr.full F1).full F2⟩) ?_ ?_ (fun Q E h=>h)
      · intro b3 iv H3 ρ3 s3 _ F3 R3 e3 vi
        have vo':VR cx ρ3 s3.heap b2 ov:=VR.step F3.step vo
        have vi':VR cx ρ3 s3.heap b3 iv:=vi
        have vr':VR cx ρ3 s3.heap b v:=VR.step F3.step (VR.step F2.step vr)
        unfold Gl
        cases hr:A3 b2 b3 b H3 with
        | bad=>trivial
        | exc c H4=>exact (Lc hr).elim
        | ok u H4 =>
          refine ex1 (Qr hr) fun a zz=>Ac zz fun zr1 hs=>?_;subst zr1
          refine ex1 vo'.loc_inv fun p1 zz=>Ac zz fun hp1 hr1=>?_;refine Eq.symm hr1▸?_
          rcases hs with ⟨xs,k,hl,rfl,k0,k1,rfl⟩ | ⟨es,k,hl,hk,q,rfl⟩
          · refine Af fun G kG=>?_
            obtain ⟨t,rfl⟩:=vi'.int_inv
            refine ex2 (R3.listAt hl hp1) fun vs n zz=>Cm zz fun hpp g rr z=>?_
            refine kG ?_
            have z':=z
            rw [sizeLine_eq] at z'
            refine Qq g k0 (by rw [<- rr.length];exact k1) (b63 z' k1) ?_
            refine ex1 (Jl (b:=.none) (v:=.none) (ys:=xs.set k.toNat b) R3 hp1 hpp g (fun w=>w.setIfInBounds k.toNat v) (rr.setArr k.toNat vr') (by rw [List.length_set];exact z) fun _ _=>.none) fun ρ' zz=>An zz fun F R' _=>?_
            exact ⟨rfl,ρ',F.toS,R',e3.full F⟩
          · exact Qs G.u R3 hp1 hl hk q vi' vr' fun h' tk F R'=>⟨rfl,ρ3,F.toS,R',e3.full F⟩
      · exact fun _ Q E Q' E' s h k1 k2=>zE h (fun _ _=>k1 _ _) k2
    · exact fun _ Q E Q' E' s h k1 k2=>zE h (fun _ _ h'=>zE h' (fun _ _=>k1 _ _) k2) k2
  · exact fun _ Q E Q' E' s h k1 k2=>zE h (fun _ _ h'=>zE h' (fun _ _ h2=>zE h2 (fun _ _=>k1 _ _) k2) k2) k2
end
section
variable {cx:Cx} {N:Names} {A:Around} {Φ:Funs} {l:List Env} {d:Nat} {env:Env} {sc:Scope} {ns:List (Option Str)} {Γ:Env'} {H:Hp} {ρ ρ':Rho} {s:Shared}
theorem Tc (G:Ground cx N A Φ l d) (ha:C3 ns) {c:Nat} {x msg:Str} {np cpos pos:Pos} {k:Nat} {mp:Pos} (hg:Bs sc x=true) (hn:Dz N.clss x c=true) (hck:ckEs N sc ns (.cons (.str msg) .nil) [.Constant (.str msg) k mp]=true) :
    Gv cx A l env sc ns (exec (.Raise (some (.Call (.Name x np) [.Constant (.str msg) k mp] [] cpos)) none pos) env) (Da cx.T Φ (.raise c msg)):=by
  intro Γ H ρ s R e0 fr
  rw [Vn]
  by_cases hi:¬ cx.T.isExc c=true
  · rw [if_neg hi];trivial
  have hi:cx.T.isExc c=true:=Classical.not_not.mp hi
  rw [if_pos hi]
  refine ex1 (G.base.exc c hi) fun C zz=>Ac zz fun hC ok=>?_
  refine ex2 G.base.ns fun mg mb zz=>Lz zz fun ng nb _ _ q _=>?_
  refine ex1 (q x c (Co hn)) fun Cv zz=>Ac zz fun hC' hx=>?_
  rw [hC] at hC';cases hC'
  refine Vk ok.is fun nm qn Nn bs bm hdct sn sub ab col dd k0 k1 k2 zz=>ex3 zz fun k3 k5 mN zz=>Fo zz fun hCo hNs hin tl _=>?_
  have y:=eoks G (.cons (.str msg) .nil) [.Constant (.str msg) k mp] env sc ns Γ hck ha e0.len H ρ s R ⟨e0,fr⟩
  have ev:evalEs cx.T Φ (.cons (.str msg) .nil) Γ H=.ok [.str msg] H:=rfl
  rw [ev] at y
  have pl:=Ap (env:=env) cpos (Cb hck)
  refine wpAny_Raise_call_subT (C:=C) (nm:=nm) (q:=qn) (N:=Nn) (bs:=bs) (hdct:=hdct) (sn:=sn) (sub:=sub) (ab:=ab) (col:=col) (dd:=dd) (k0:=k0) (k1:=k1) (k2:=k2) (k3:=k3) (k5:=k5) F.excBase_ValueError (mN:=mN) (bm:=bm) (tl.hasType (by decide)) G.room.hh (by rw [pl];exact Di _) hin ?_
  refine wp_glob R e0.st hg ng nb hx ⟨rfl,?_⟩
  rw [pl]
  refine Calls.evalArgs_plain (zE y (fun vs s' ⟨ρ',F,R',vrs⟩=>?_) fun _ _ q=>q.elim)
  refine ⟨rfl,by have:=vrs.length;skip;rw [<- this];show 1 <= 16777216;decide,R'.base _ _ hCo,hNs.keeps R'.base,tl.keeps R'.base,fun h' e m=>?_⟩
  have F':Full ρ s.heap ρ' h':=F.trans (Full.more m.keeps)
  refine Af fun G kG=>?_
  refine ex1 m.there fun t zz=>An zz fun ht _ _=>?_
  refine kG ?_
  exact ⟨ρ',F'.toS,R'.more (tk:=s'.toks) m.keeps,e0.full F',e,C,_,rfl,hC,F.live.none m.new,ht,rfl,R'.fresh_not m.new,.inl rfl⟩
end
structure GroundC (cx:Cx) (N:Names) (A:Around) (Φ:Funs) (l:List Env) (K:Nat -> Bool):Prop where
  base:Base cx N
  u:A.units+100 < cLine
  funs:∀ (f:Nat) (a:Addr) (args:List Val) (vals:List Value),K f=true -> cx.fns[f]?=some a -> Sim cx A ((Amb.vrs cx args vals).and (Amb.frames cx l)) (call (.ref a) vals) (Φ f args) (Amb.vr cx)
  defs:∀ (f:Nat) (a:Addr),cx.fns[f]?=some a -> ∃ g,cx.T.funs[f]?=some g
section
variable {cx:Cx} {N:Names} {A:Around} {Φ:Funs} {l:List Env} {d:Nat} {K:Nat -> Bool} {env:Env} {sc:Scope} {ns:List (Option Str)} {Γ:Env'} {H:Hp} {ρ ρ':Rho} {s:Shared}
mutual
theorem Vj (G:GroundC cx N A Φ l K):∀ (m:ME) (e:Expr) (env:Env) (sc:Scope) (ns:List (Option Str)) (Γ:Env'),I9 K m=true -> ck N sc ns m e=true -> C3 ns -> Γ.length=ns.length -> EOk cx A ((Amb.env cx env sc ns Γ).and (Amb.frames cx l)) Φ env Γ m e
  | .none,e,env,sc,ns,Γ,c,h,_,_=>by
    refine ex2 (O2 h) fun k pos hr0=>?_;refine Eq.symm hr0▸?_
    refine EOk.of (fun H ρ s R p=>?_) rfl
    exact At R fun Q E k=>wpAny_Constant_none (k _ s.toks .none)
  | .bool b,e,env,sc,ns,Γ,c,h,_,_=>by
    refine ex2 (O3 h) fun k pos zr2=>?_;subst zr2
    refine EOk.of (fun H ρ s R p=>?_) rfl
    exact At R fun Q E k=>wpAny_Constant_bool (k _ s.toks (.bool b))
  | .int i,e,env,sc,ns,Γ,c,h,_,_=>by
    refine ex2 (Sb h) fun k pos zr2=>?_;subst zr2
    refine EOk.of (fun H ρ s R p=>?_) rfl
    exact At R fun Q E k=>wpAny_Constant_int (k _ _ (.int _ _))
  | .str v,e,env,sc,ns,Γ,c,h,_,_=>by
    refine ex2 (Sc h) fun k pos zz=>Ac zz fun zr2 z=>?_;subst zr2
    refine EOk.of (fun H ρ s R p=>?_) rfl
    exact At R fun Q E k=>wpAny_Constant_str (k _ _ (.str _ _ (by rw [sizeLine_eq];exact o22 z)))
  | .var i,e,env,sc,ns,Γ,c,h,_,_=>by
    refine ex2 (Sd h) fun x pos zz=>Ac zz fun zr2 h1=>?_;subst zr2
    exact EOk.of (Rz h1 Φ).and1 rfl
  | .bin op a b,e,env,sc,ns,Γ,c,h,ha,hΓ=>by
    refine ex4 (Se h) fun x o y pos zz=>Cm zz fun hr5 h1 h2 h3=>?_;refine Eq.symm hr5▸?_
    exact Ss h1 (Vj G a x env sc ns Γ (an1 c) h2 ha hΓ) (Vj G b y env sc ns Γ (an2 c) h3 ha hΓ)
  | .cmp op a b,e,env,sc,ns,Γ,c,h,ha,hΓ=>by
    refine ex3 (Sf h) fun x y pos zz=>Cm zz fun hr6 h1 h2 h3=>?_;refine Eq.symm hr6▸?_
    exact Su G.u h3 (Vj G a x env sc ns Γ (an1 c) h1 ha hΓ) (Vj G b y env sc ns Γ (an2 c) h2 ha hΓ)
  | .call f es,e,env,sc,ns,Γ,c,h,ha,hΓ=>by
    refine ex4 (O4 h) fun x np xs pos zz=>Fo zz fun hr7 h1 h2 h3 h4=>?_;refine Eq.symm hr7▸?_
    refine EOk.of ?_ rfl
    refine ex2 G.base.ns fun mg mb zz=>Cm zz fun ng nb q _=>?_
    refine ex1 (q x f (Co h2)) fun a zz=>Ac zz fun ha' _=>?_
    exact Mj G.base (fun a args vals h=>G.funs f a args vals (an1 c) h) h1 h2 (G.defs f a ha') h3 (eoksC G es xs env sc ns Γ (an2 c) h3 ha hΓ)
  | .bm a m es,e,env,sc,ns,Γ,c,h,ha,hΓ=>by
    refine ex5 (Yl h) fun o y apos xs pos zz=>Nj zz fun zr5 h1 zr7 h3 h4 h5 h6=>?_;subst zr5;subst zr7
    refine EOk.of ?_ rfl
    exact Yk h5 (Cb h4) (by rw [<- h3];cases m <;> decide) (fun e=>E5 (e▸h4)) h6 (Vj G a o env sc ns Γ (an2 (an1 c)) h1 ha hΓ).val (eoksC G es xs env sc ns Γ (an2 c) h4 ha hΓ)
      (fun b v ms vs hl=>Yq G.u m b v ms vs (Yp h3 hl)) (fun _ _ _ e=>Ch h4 e)
  | .isinst a t,e,env,sc,ns,Γ,c,h,ha,hΓ=>by
    refine ex6 (Kf h) fun f np x y yp pos zz=>Lz zz fun hr8 h1 h2 h3 h4 h5=>?_;refine Eq.symm hr8▸?_
    have z:=Vj G a x env sc ns Γ c h4 ha hΓ
    cases t with
    | cls c=>exact Pb G.base h1 h2 h3 h5 (A7 h4) z
    | int=>exact Em G.base (fun c=>by intro q;cases q) h1 h2 h3 (of_decide_eq_true h5) (A7 h4) z
    | bool=>exact Em G.base (fun c=>by intro q;cases q) h1 h2 h3 (of_decide_eq_true h5) (A7 h4) z
    | str=>exact Em G.base (fun c=>by intro q;cases q) h1 h2 h3 (of_decide_eq_true h5) (A7 h4) z
    | tuple=>exact Em G.base (fun c=>by intro q;cases q) h1 h2 h3 (of_decide_eq_true h5) (A7 h4) z
    | list=>exact Em G.base (fun c=>by intro q;cases q) h1 h2 h3 (of_decide_eq_true h5) (A7 h4) z
  | .glob _,_,_,_,_,_,c,_,_,_=>by exact Am c
  | .neg _,_,_,_,_,_,c,_,_,_=>by exact Am c
  | .not _,_,_,_,_,_,c,_,_,_=>by exact Am c
  | .and _ _,_,_,_,_,_,c,_,_,_=>by exact Am c
  | .or _ _,_,_,_,_,_,c,_,_,_=>by exact Am c
  | .cmp2 _ _ _ _ _,_,_,_,_,_,c,_,_,_=>by exact Am c
  | .sub _ _,_,_,_,_,_,c,_,_,_=>by exact Am c
  | .tup _,_,_,_,_,_,c,_,_,_=>by exact Am c
  | .list _,_,_,_,_,_,c,_,_,_=>by exact Am c
  | .dict,_,_,_,_,_,c,_,_,_=>by exact Am c
  | .attr _ _,_,_,_,_,_,c,_,_,_=>by exact Am c
  | .new _ _,_,_,_,_,_,c,_,_,_=>by exact Am c
  | .umeth _ _ _,_,_,_,_,_,c,_,_,_=>by exact Am c
  | .bf _ _,_,_,_,_,_,c,_,_,_=>by exact Am c
  | .comp _ _ _,_,_,_,_,_,c,_,_,_=>by exact Am c
theorem eoksC (G:GroundC cx N A Φ l K):∀ (ms:MEs) (xs:List Expr) (env:Env) (sc:Scope) (ns:List (Option Str)) (Γ:Env'),calmEs K ms=true -> ckEs N sc ns ms xs=true -> C3 ns -> Γ.length=ns.length ->
    Sim cx A ((Amb.env cx env sc ns Γ).and (Amb.frames cx l)) (spliced (xs.map fun e=>(false,eval e env))) (evalEs cx.T Φ ms Γ) (Amb.vrs cx)
  | .nil,[],env,sc,ns,Γ,c,h,ha,hΓ=>Sj
  | .nil,_ :: _,env,sc,ns,Γ,c,h,ha,hΓ=>by cases (show false=true from h)
  | .cons _ _,[],env,sc,ns,Γ,c,h,ha,hΓ=>by cases (show false=true from h)
  | .cons m ms,x :: xs,env,sc,ns,Γ,c,h,ha,hΓ=>O6 (Vj G m x env sc ns Γ (an1 c) (an1 h) ha hΓ).val (eoksC G ms xs env sc ns Γ (an2 c) (an2 h) ha hΓ)
end
theorem Qu {m:MEo} {x:Option Expr} {pos:Pos} (hm:ckO N sc ns m x=true) (he:∀ e x',m=.some e -> x=some x' -> ck N sc ns e x'=true -> ∀ Γ:Env',Γ.length=ns.length -> EOk cx A ((Amb.env cx env sc ns Γ).and (Amb.frames cx l)) Φ env Γ e x'):Gv cx A l env sc ns (exec (.Return x pos) env) (Da cx.T Φ (.ret m)):=by
  intro Γ H ρ s R e0 fr
  match m,x,hm,he with
  | .none,none,_,_=>exact wpAny_Return_none ⟨_,ρ,rfl,FullS.refl _ _ _,R,.none,e0.st⟩
  | .some e,some x,hm,he =>
    exact Bz.to (Bt.bindK (K:=fun v Q _ s=>Q (.ret v) s) e0 ((he e x rfl rfl hm Γ e0.len).val H ρ s R ⟨e0,fr⟩) (fun b v H1 ρ1 s1 _ F1 R1 e1 vr=>⟨v,ρ1,rfl,FullS.refl _ _ _,R1,vr,e1.st⟩) (fun _ Q E Q' E' s h k1 _=>k1 _ _ h) fun Q E h=>wpAny_Return_some h)
  | .none,some _,h,_=>cases (show false=true from h)
  | .some _,none,h,_=>cases (show false=true from h)
theorem Qv {c:ME} {t f:MSs} {x:Expr} {ts fs:List Stmt} {pos:Pos} (hc:∀ Γ:Env',Γ.length=ns.length -> EOk cx A ((Amb.env cx env sc ns Γ).and (Amb.frames cx l)) Φ env Γ c x) (ht:Gv cx A l env sc ns (execs ts env) (execSs cx.T Φ t)) (hf:Gv cx A l env sc ns (execs fs env) (execSs cx.T Φ f)) :
    Gv cx A l env sc ns (exec (.If x ts fs pos) env) (Da cx.T Φ (.ite c t f)):=by
  intro Γ H ρ s R e0 fr
  refine Bz.to (Bt.bindK (K:=fun b Q E s=>if b=true then wpAny (model cx.prog cx.w) A (execs ts env) Q E s else wpAny (model cx.prog cx.w) A (execs fs env) Q E s) e0 ((hc Γ e0.len).tru H ρ s R ⟨e0,fr⟩) ?_ ?_ fun Q E h=>wpAny_If h)
  · intro b b' H1 ρ1 s1 _ F1 R1 e1 hb
    have hb':b'=b:=hb
    refine hb'▸?_
    cases b' with
    | true=>exact (Bz.of (ht Γ H1 ρ1 s1 R1 e1 (fr.full F1))).mono fun Q E h=>h
    | false=>exact (Bz.of (hf Γ H1 ρ1 s1 R1 e1 (fr.full F1))).mono fun Q E h=>by simpa using h
  · intro b Q E Q' E' s h k1 k2
    cases b
    · simp only [Bool.false_eq_true,if_false] at h ⊢;exact zE h k1 k2
    · simp only [if_true] at h ⊢;exact zE h k1 k2
mutual
theorem Ao9 (G:GroundC cx N A Φ l K) (ha:C3 ns):∀ (m:MS) (st:Stmt),Ac3 K m=true -> ckS N sc ns m st=true -> Gv cx A l env sc ns (exec st env) (Da cx.T Φ m)
  | .assign i e,st,c,h=>by
    obtain ⟨t,h⟩:=Ab h
    rw [t.2]
    refine Do ha (an1 h) (Jo (an2 h) fun a b d w=>?_) fun Γ hΓ=>Vj G e _ env sc ns Γ c (an2 h) ha hΓ
    rw [w] at c;cases (show false=true from c)
  | .ret e,st,c,h=>by
    obtain ⟨t,h⟩:=Ab h
    rw [t.2]
    exact Qu h fun e' x' he _ hk Γ hΓ=>Vj G e' x' env sc ns Γ (by rw [he] at c;exact c) hk ha hΓ
  | .ite c t f,st,q,h=>by
    obtain ⟨p,h⟩:=Ab h
    rw [p.2]
    exact Qv (fun Γ hΓ=>Vj G c _ env sc ns Γ (an1 (an1 q)) (an1 (an1 h)) ha hΓ) (soksC G ha t p.1.2.1 (an2 (an1 q)) (an2 (an1 h))) (soksC G ha f p.1.2.2.1 (an2 q) (an2 h))
  | .expr _,_,c,_=>by exact Am c
  | .setattr _ _ _,_,c,_=>by exact Am c
  | .setitem _ _ _,_,c,_=>by exact Am c
  | .loop _ _,_,c,_=>by exact Am c
  | .each _ _ _,_,c,_=>by exact Am c
  | .eachZip _ _ _ _ _,_,c,_=>by exact Am c
  | .raise _ _,_,c,_=>by exact Am c
  | .tryx _ _,_,c,_=>by exact Am c
theorem soksC (G:GroundC cx N A Φ l K) (ha:C3 ns):∀ (m:MSs) (sts:List Stmt),calmSs K m=true -> ckSs N sc ns m sts=true -> Gv cx A l env sc ns (execs sts env) (execSs cx.T Φ m)
  | .nil,[],_,_=>by
    intro Γ H ρ s R e0 fr
    exact wpAny_execs_nil ⟨rfl,ρ,FullS.refl _ _ _,R,e0⟩
  | .nil,_ :: _,_,h=>by cases (show false=true from h)
  | .cons _ _,[],_,h=>by cases (show false=true from h)
  | .cons m ms,st :: sts,c,h=>by
    intro Γ H ρ s R e0 fr
    exact Pd e0 fr (Ao9 G ha m st (an1 c) (an1 h) Γ H ρ s R e0 fr) (soksC G ha ms sts (an2 c) (an2 h))
end
theorem Td (B:Base cx N) (defs:∀ (f:Nat) (a:Addr),cx.fns[f]?=some a -> ∃ g,cx.T.funs[f]?=some g) {k:Nat} {a:Addr} {args:List Val} {vals:List Value} (hc:Fh cx.T k=true) (hk:cx.fns[k]?=some a) (room:RoomQ A (d+1)) (hfr:A.frames=some l) :
    Sim cx A ((Amb.vrs cx args vals).and (Amb.frames cx l)) (call (.ref a) vals) (Ai cx.T (d+1) k args) (Amb.vr cx):=by
  refine Ml B hk room hfr fun f stmts env sc ns hf h1 h2 h3 h4=>?_
  have c:calmSs (fun _=>false) f.body=true:=by unfold Fh at hc;rw [hf] at hc;exact hc
  exact soksC (K:=fun _=>false) ⟨B,by have:=room.units;show A.units+3+100 < _;exact Ajq this,fun f a args vals h=>(by exact nomatch h),defs⟩ h2 f.body stmts c h1
end
noncomputable def N8 (cx:Cx) (Φ:Funs) (d:Nat):Prop :=
  ∀ (k:Nat) (a:Addr) (args:List Val) (vals:List Value) (A:Around) (l:List Env),Fh cx.T k=true -> cx.fns[k]?=some a -> RoomQ A d -> A.frames=some l ->
    Sim cx A ((Amb.vrs cx args vals).and (Amb.frames cx l)) (call (.ref a) vals) (Φ k args) (Amb.vr cx)
theorem Ww {cx:Cx} {N:Names} (B:Base cx N) (defs:∀ (f:Nat) (a:Addr),cx.fns[f]?=some a -> ∃ g,cx.T.funs[f]?=some g):∀ d,N8 cx (Ai cx.T d) d
  | 0=>fun k a args vals A l _ _ _ _ H ρ s R p=>trivial
  | d+1=>fun k a args vals A l hc hk room hfr=>Td B defs hc hk room hfr
section
variable {M:Model} {A:Around} {E:Value -> Shared -> Prop} {h:Heap} {g:Array GenState} {d:Drawn} {t:Nat} {os:OsState}
variable {nm q:Str} {C N:Addr} {bs bm:List Value} {hdct:Bool} {sn:List Str} {sub:List Value} {ab:Bool} {col:Option Bool} {dd:Option Addr} {k0 k1 k2 k3 k5:Option Value} {newId:String}
variable {nm' q':Str} {C' N':Addr} {bs' bm':List Value} {hdct':Bool} {sn':List Str} {sub':List Value} {ab':Bool} {col':Option Bool} {dd':Option Addr} {k0' k1' k2' k3' k5':Option Value} {newId':String}
theorem Qw {e:Addr} {oe:Obj} {Q:Bool -> Shared -> Prop} (hC:h.get? C=some (excClassObj nm q C N bs bm hdct sn sub ab col dd k0 k1 k2 k3 k5 newId)) (hD:h.get? C'=some (excClassObj nm' q' C' N' bs' bm' hdct' sn' sub' ab' col' dd' k0' k1' k2' k3' k5' newId')) (he:h.get? e=some oe) (hcls:oe.cls=.ref C) (hbase:bm'.contains (.type "BaseException")=true)
    (hq:Q ((Value.ref C :: bm).contains (.ref C')) ⟨h,g,d,t,os⟩):wpAny M A (excMatches (.ref e) (.ref C')) Q E ⟨h,g,d,t,os⟩:=by
  have hcB:(Value.ref C' :: bm').contains (.type "BaseException")=true:=by rw [List.contains_cons,hbase,Bool.or_true]
  have f:=tc_notTuple
  generalize hb:(Value.ref C :: bm).contains (.ref C')=b at hq
  unfold excMatches
  repeat (first | (with_reducible refine wpAny_loadPart_at he ?_;rw [hcls]) | with_reducible refine wpAny_loadPart_at hD ?_ | (with_reducible refine wpAny_isSubtype_exc hD ?_;rw [hcB]) | (with_reducible refine wpAny_isSubtype_exc hC ?_;rw [hb]) | wp_step)
  cases b <;> (wp_walk;exact hq)
end
section
variable {cx:Cx} {N:Names} {A:Around} {Φ:Funs} {l:List Env} {d:Nat} {env:Env} {sc:Scope} {ns:List (Option Str)} {Γ:Env'} {H:Hp} {ρ ρ₀:Rho} {s:Shared} {h:Heap} {c:Nat} {e:Value} {Q:Flow -> Shared -> Prop} {E:Value -> Shared -> Prop}
theorem Aa1 (lb:E1 cx.h₀ h) (fl:Flown cx ρ h s.heap c e) {what:String} (k:∀ h',Off cx ρ h s.heap h' -> Flown cx ρ h h' c e -> E e { s with heap:=h' }):wpAny (model cx.prog cx.w) A (passOn what e env:Sem Flow) Q E s:=by
  refine Af fun G kG=>?_
  refine ex5 fl.is fun a C vs tb tvs zz=>Vl zz fun zr5 hC ha ga hz no h1 htb gtb hzt not=>?_;subst zr5
  refine kG ?_
  unfold passOn
  refine zB (wpAny_field ga rfl h1 ?_)
  exact zB (Et lb ⟨a,C,vs,tb,tvs,rfl,hC,ha,ga,hz,no,h1,htb,gtb,hzt,not⟩ fun h' o' fl'=>wpAny_throw (k h' o' fl'))
theorem Pf {e:Value} {b:MSs} {ts:List Stmt} {K:Nat -> Bool} {v:Val} {H':Hp} {Γ':Env'} (G:GroundC cx N (A.mark (some e)) Φ (env :: l) K) (ha:C3 ns) (hc:calmSs K b=true) (hk:ckSs N sc ns b ts=true) (hr:execSs cx.T Φ b Γ' H=.ret v H') (R:Rel cx H ρ s) (e0:EnvOk cx env sc ns Γ' ρ s.heap) (w:Aw cx (env :: l) ρ s.heap) (F:FullS env ρ₀ h ρ s.heap)
    (k:∀ v' ρ' s',FullS env ρ₀ h ρ' s'.heap -> Rel cx H' ρ' s' -> VR cx ρ' s'.heap v v' -> EnvSt cx env sc ρ' s'.heap -> Q (.ret v') s'):wpAny (model cx.prog cx.w) (A.mark (some e)) (execs ts env) Q (fun x s'=>False) s:=by
  have y:=soksC (env:=env) G ha b ts hc hk Γ' H ρ s R e0 w
  rw [hr] at y
  exact zE y (fun f s' ⟨v',ρ',h1,F1,R1,vr⟩=>by refine Eq.symm h1▸?_;exact k v' ρ' s' (F.trans F1) R1 vr.1 vr.2) fun _ _ q=>q.elim
theorem Step.loc {h h':Heap} (x:EnvSt cx env sc ρ h) (sb:Heap.SameBut env.locals h h') (e':∃ o,h'.get? env.locals=some o):Step ρ h ρ h':=by
  have k:∀ b o,h.get? b=some o -> b≠env.locals -> h'.get? b=some o:=fun b o e n=>(sb.2 b n).trans e
  exact ⟨⟨[],by simp⟩,fun b o e f n=>⟨k b o e (x.notLoc e f.notDict),n⟩,fun b o C e f n=>⟨o,k b o e (x.notLoc e f.notDict),f,n⟩⟩
theorem Te {n:Str} {pos:Pos} {Q:Unit -> Shared -> Prop} (hl:sc.names.lookup n=some .local) (R:Rel cx H ρ s) (st:EnvSt cx env sc ρ s.heap) (F:FullS env ρ₀ h ρ s.heap)
    (k:∀ h' tk,FullS env ρ₀ h ρ h' -> Rel cx H ρ { s with heap:=h',toks:=tk } -> Step ρ s.heap ρ h' -> EnvSt cx env sc ρ h' -> Q () { s with heap:=h',toks:=tk }):wpAny (model cx.prog cx.w) A (do bindName env n .none;unbindBehindTheSuite env n pos) Q E s:=by
  obtain ⟨m,hm⟩:=st.loc
  refine wpAny_nameGoes (m:=m) (st.kinds n _ hl) hm (by rw [st.fn];rfl) fun h' m' hn' sb=>?_
  refine Af fun G kG=>?_
  refine ex3 (id hn') fun o' es' ep' zz=>An zz fun e' d' _=>?_
  refine kG ?_
  have stp:=Step.loc st sb ⟨o',e'⟩
  have kk:∀ b o,s.heap.get? b=some o -> b≠env.locals -> h'.get? b=some o:=fun b o e n=>(sb.2 b n).trans e
  refine k h' _ ⟨F.grow,fun b o e n n1 n2=>?_,fun b o e=>?_⟩ (R.same stp (fun b o w e=>kk b o e fun q=>st.locN (q▸w)) fun b o e=>kk b o (R.base b o e) fun q=>by rw [q,st.locB] at e;exact nomatch e) stp ⟨st.fn,st.glob,st.blt,st.kinds,⟨m',hn'⟩,st.locN,st.locB,fun y c hc=>?_,st.hasCell,st.apart⟩
  · refine ex1 (F.keep b o e n n1 n2) fun o1 zz=>Ac zz fun e1 u1=>?_
    exact ⟨o1,kk b o1 e1 n1,u1⟩
  · obtain ⟨o1,e1⟩:=F.live b o e
    by_cases q:b=env.locals
    · exact ⟨o',q▸e'⟩
    · exact ⟨o1,kk b o1 e1 q⟩
  · refine Af fun G kG=>?_
    refine An (st.cells y c hc) fun zn0 n b=>?_;obtain ⟨v,o,eo,dv⟩:=zn0
    refine kG ?_
    exact ⟨⟨v,o,kk c o eo (st.notLoc eo fun es k q=>by rw [dv] at q;cases q),dv⟩,n,b⟩
theorem Wx (T:Tab) (Φ:Funs) (d:Nat) (i:Option Nat) (body:MSs) (hs:MHs) (c:Nat) (Γ:Env') (H:Hp):execH T Φ (.cons d i body hs) c Γ H=(if (T.isExc c && T.isExc d && calmSs (Fh T) body)=false then .bad else if T.sub c d=true then
      match execSs T Φ body (match i with | some i=>Γ.set i (some (.exc c)) | none=>Γ) H with
      | .ret v H'=>.ret v H'
      | _=>.bad
    else execH T Φ hs c Γ H):=rfl
theorem Aa2 {r:ResS} (h:(match r with | .ret v H'=>ResS.ret v H' | _=>.bad)≠.bad):∃ v H',r=.ret v H':=by
  cases r with
  | ret v H'=>exact ⟨v,H',rfl⟩
  | bad=>exact absurd rfl h
  | next _ _=>exact absurd rfl h
  | exc _ _ _=>exact absurd rfl h
theorem Qx (G:Ground cx N A Φ (env :: l) d) (FC:N8 cx Φ d) (ha:C3 ns) (lb:E1 cx.h₀ h) {b:MSs} {i:Option Nat} {y:Option Str} {t:Stmt} {ts:List Stmt} {pos:Pos} {v:Val} {H':Hp} (hcalm:calmSs (Fh cx.T) b=true) (hck:ckSs N sc ns b (t :: ts)=true) (hr:execSs cx.T Φ b (match i with | some i=>Γ.set i (some (.exc c)) | none=>Γ) H=.ret v H') (hnm:Yh sc ns i y=true)
    (R:Rel cx H ρ s) (e0:EnvOk cx env sc ns Γ ρ s.heap) (w:Aw cx (env :: l) ρ s.heap) (F:FullS env ρ₀ h ρ s.heap) (fl:Flown cx ρ h s.heap c e) (p:Wn cx env sc ns ρ₀ h (.ret v H') Q E) :
    codeAny (model cx.prog cx.w) (A.mark (some e)) (.handlers e [.ExceptHandler none y (t :: ts) pos] env) (fun r s₂=>match r with
          | .ok f=>(match (generalizing:=false) y with
            | none=>Q f s₂
            | some n=>wpAny (model cx.prog cx.w) A (do bindName env n .none;unbindBehindTheSuite env n pos) (fun _ s₃=>Q f s₃) E s₂)
          | .error x=>cameBackBy (model cx.prog cx.w) A env E x s₂) s:=by
  have GC:GroundC cx N (A.mark (some e)) Φ (env :: l) (Fh cx.T):=⟨G.base,G.u,fun f a args vals hc hf=>FC f a args vals (A.mark (some e)) (env :: l) hc hf ⟨by have:=G.room.depth;show A.depth+_+_ < _;exact o2 this,by have:=G.room.units;show A.units+_+_ < _;exact o3 this⟩ G.frames,G.defs⟩
  cases i with
  | none =>
    cases y with
    | some _=>exact Am hnm
    | none =>
      refine codeAny_handlers_suite (Et lb fl fun h1 o1 fl1=>?_)
      exact zE (Pf (s:={ s with heap:=h1 }) GC ha hcalm hck hr (o1.rel R) (o1.envK e0) (o1.frames w) (o1.fullS F) fun v' ρ' s' F' R' vr st=>p s' ρ' v' F' R' ⟨vr,st⟩) (fun _ _ q=>q) fun _ _ q=>q.elim
  | some i =>
    cases y with
    | none=>exact Am hnm
    | some n =>
      have hown:Fm sc ns i n=true:=an1 hnm
      have hloc:sc.names.lookup n=some .local:=of_decide_eq_true (an2 hnm)
      refine codeAny_handlers_suite_as (Et lb fl fun h1 o1 fl1=>?_)
      refine D7 (s:={ s with heap:=h1 }) (o1.envK e0).len ha (o1.rel R) (o1.envK e0) hown fl1.vr fun h2 tk2 F2 R2 e2 _=>?_
      refine zE (Pf (s:={ s with heap:=h2,toks:=tk2 }) GC ha hcalm hck hr R2 e2 ((o1.frames w).stmt F2 (o1.envK e0).st e2.st) ((o1.fullS F).trans F2) fun v' ρ' s' F' R' vr st=>?_) (fun _ _ q=>q) fun _ _ q=>q.elim
      exact Te hloc R' st F' fun h3 tk3 F3 R3 stp st3=>p { s' with heap:=h3,toks:=tk3 } ρ' v' F3 R3 ⟨vr.step stp,st3⟩
theorem Mt (G:Ground cx N A Φ (env :: l) d) (FC:N8 cx Φ d) (ha:C3 ns) (lb:E1 cx.h₀ h):∀ (hs:MHs) (hx:List ExceptHandler),ckHs N sc ns hs hx=true -> Rel cx H ρ s -> EnvOk cx env sc ns Γ ρ s.heap -> Aw cx (env :: l) ρ s.heap -> FullS env ρ₀ h ρ s.heap -> Flown cx ρ h s.heap c e -> execH cx.T Φ hs c Γ H≠.bad -> Wn cx env sc ns ρ₀ h (execH cx.T Φ hs c Γ H) Q E -> wpAny (model cx.prog cx.w) A (handleBy e env hx) Q E s
  | .nil,[],_,R,e0,w,F,fl,_,p=>wpAny_handleBy_nil (Aa1 lb fl fun h' o' fl'=>p e { s with heap:=h' } ρ (o'.fullS F) (o'.rel R) (o'.envK e0) fl'.to)
  | .nil,_ :: _,hk,_,_,_,_,_,_,_=>by cases (show false=true from hk)
  | .cons _ _ _ _,[],hk,_,_,_,_,_,_,_=>by cases (show false=true from hk)
  | .cons dc i b hs,hd :: hx,hk,R,e0,w,F,fl,nb,p=>by
    obtain ⟨t,hc⟩:=Ab (an1 hk)
    rw [t.2]
    rw [Wx] at nb p
    by_cases q1:(cx.T.isExc c && cx.T.isExc dc && calmSs (Fh cx.T) b)=false
    · rw [if_pos q1] at nb;exact absurd rfl nb
    rw [if_neg q1] at nb p
    have q2:(cx.T.isExc c && cx.T.isExc dc && calmSs (Fh cx.T) b)=true:=by cases q:(cx.T.isExc c && cx.T.isExc dc && calmSs (Fh cx.T) b) <;> first | rfl | exact absurd q q1
    refine ex2 G.base.ns fun mg mb zz=>Lz zz fun ng nbl _ _ qc _=>?_
    refine ex1 (qc _ dc (Co (an2 (an1 (an1 hc))))) fun Dv zz=>Ac zz fun hDv hxv=>?_
    refine ex1 (G.base.exc c (an1 (an1 q2))) fun C zz=>Ac zz fun hC okC=>?_
    refine ex1 (G.base.exc dc (an2 (an1 q2))) fun D zz=>Ac zz fun hD okD=>?_
    rw [hD] at hDv;cases hDv
    refine Vk okC.is fun nm qn Nn bs bm hdct sn sub ab col dd k0 k1 k2 zz=>ex3 zz fun k3 k5 mN zz=>Fo zz fun hCo hNs hin tl hsub=>?_
    refine Vk okD.is fun nm' qn' Nn' bs' bm' hdct' sn' sub' ab' col' dd' k0' k1' k2' zz=>ex3 zz fun k3' k5' mN' zz=>Fo zz fun hDo hNs' hin' tl' hsub'=>?_
    refine ex5 (id fl.is) fun a C' vs tb tvs zz=>Nj zz fun he hC' hna ga hz no h7=>?_
    rw [hC] at hC';cases hC'
    refine wpAny_handleBy_cons (codeAny_handlers_test (wp_glob (A:=A.mark (some e)) R e0.st (an1 (an1 (an1 hc))) ng nbl hxv ?_)) (by rw [he];intro q;cases q)
    have m:=hsub dc (.ref D) hD
    have goal:∀ z,(Value.ref C :: bm).contains (.ref D)=z -> (if z=true then codeAny (model cx.prog cx.w) (A.mark (some e)) (.handlers e [.ExceptHandler none t.1.2.2.1 (t.1.2.2.2.1 :: t.1.2.2.2.2.1) t.1.2.2.2.2.2] env) (fun r s₂=>match r with
          | .ok f=>(match t.1.2.2.1 with
            | none=>Q f s₂
            | some n=>wpAny (model cx.prog cx.w) A (do bindName env n .none;unbindBehindTheSuite env n t.1.2.2.2.2.2) (fun _ s₃=>Q f s₃) E s₂)
          | .error x=>cameBackBy (model cx.prog cx.w) A env E x s₂) s else wpAny (model cx.prog cx.w) A (handleBy e env hx) Q E s):=by
      intro z hz'
      rw [hz'] at m
      rw [m] at nb p
      cases z with
      | true =>
        rw [if_pos rfl] at nb p ⊢
        refine ex2 (Aa2 nb) fun v H' hr=>?_
        rw [hr] at p
        exact Qx G FC ha lb (an2 q2) (an2 (an1 hc)) hr (an2 hc) R e0 w F fl p
      | false =>
        rw [if_neg (by decide)] at nb p ⊢
        exact Mt G FC ha lb hs hx (an2 hk) R e0 w F fl nb p
    have g:=goal _ rfl
    rw [he]
    rw [he] at g
    obtain ⟨hp,gg,dr,tk,os⟩:=s
    refine Qw (R.base _ _ hCo) (R.base _ _ hDo) ga rfl (tl'.hasType (by decide)) ?_
    cases z:(Value.ref C :: bm).contains (.ref D) with
    | true=>rw [z,if_pos rfl] at g;exact g
    | false=>rw [z,if_neg (by decide)] at g;exact g
theorem Aa3 (G:Ground cx N A Φ (env :: l) d) (FC:N8 cx Φ d) (ha:C3 ns) (hef:env.frame=some env.locals) {b:MSs} {hs:MHs} {ts:List Stmt} {h0:ExceptHandler} {hx:List ExceptHandler} {pos:Pos} (hb:Gv cx A (env :: l) env sc ns (execs ts env) (execSs cx.T Φ b)) (hk:ckHs N sc ns hs (h0 :: hx)=true) :
    Gv cx A (env :: l) env sc ns (exec (.Try ts (h0 :: hx) [] [] pos) env) (Da cx.T Φ (.tryx b hs)):=by
  intro Γ H ρ s R e0 fr
  have B:=hb Γ H ρ s R e0 fr
  have ex:Da cx.T Φ (.tryx b hs) Γ H=(match execSs cx.T Φ b Γ H with | .exc c Γ' H'=>execH cx.T Φ hs c Γ' H' | r=>r):=rfl
  rw [ex]
  cases hr:execSs cx.T Φ b Γ H with
  | bad=>trivial
  | next Γ' H' =>
    rw [hr] at B
    exact wpAny_Try_except (zE B (fun f s' ⟨h1,q⟩=>by refine Eq.symm h1▸?_;exact wpAny_execs_nil ⟨rfl,q⟩) fun _ _ q=>q.elim)
  | ret v H' =>
    rw [hr] at B
    exact wpAny_Try_except (zE B (fun f s' ⟨v',ρ',h1,q⟩=>by refine Eq.symm h1▸?_;exact ⟨v',ρ',rfl,q⟩) fun _ _ q=>q.elim)
  | exc c Γ' H' =>
    rw [hr] at B
    refine Bz.to (Bz.ofPost (T:=fun Q E s=>wpAny (model cx.prog cx.w) A (exec (.Try ts (h0 :: hx) [] [] pos) env) Q E s) fun Q E nb p=>?_)
    refine wpAny_Try_except (zE B (fun _ _ q=>q.elim) fun e s' ⟨ρ',F,R',e',fl⟩=>?_)
    have w':=fr.stmt F e0.st e'.st
    have lb:E1 cx.h₀ s.heap:=fun b o e=>⟨o,R.base b o e⟩
    refine Nw G.frames hef w' R' lb F.live fl fun h1 o1 fl1=>Et (s:={ s' with heap:=h1 }) lb fl1 fun h2 o2 fl2=>?_
    have o:=o1.trans o2
    exact Mt (s:={ s' with heap:=h2 }) G FC ha lb hs (h0 :: hx) hk (o.rel R') (o.envK e') (o.frames w') (o.fullS F) fl2 nb p
end
section
variable {cx:Cx} {N:Names} {A:Around} {Φ:Funs} {l:List Env} {d:Nat} {env:Env} {sc:Scope} {ns:List (Option Str)} {Γ:Env'} {H:Hp} {ρ ρ':Rho} {s:Shared}
theorem Wy (G:Ground cx N A Φ l d) {m:ME} {x:Expr} {pos:Pos} (ha:C3 ns) (hm:ck N sc ns m x=true) (hc:Rw m=true):Gv cx A l env sc ns (exec (.Expr x pos) env) (Da cx.T Φ (.expr m)):=by
  intro Γ H ρ s R e0 fr
  have nc:∀ a b c,m≠.comp a b c:=fun a b c q=>by subst q;exact Am hc
  refine Bz.to (Bt.bindK (K:=fun _ Q _ s=>Q .next s) e0 ((eok G m x env sc ns Γ hm ha e0.len).val H ρ s R ⟨e0,fr⟩) (fun b v H1 ρ1 s1 _ F1 R1 e1 vr=>⟨rfl,ρ1,FullS.refl _ _ _,R1,e1⟩) (fun _ Q E Q' E' s h k1 _=>k1 _ _ h) fun Q E h=>?_)
  refine wpAny_Expr_any h ?_ (Jo hm nc)
  unfold interactive
  rw [e0.st.fn];rfl
theorem Aa4 (G:Ground cx N A Φ l d) {m:MEo} {x:Option Expr} {pos:Pos} (ha:C3 ns) (hm:ckO N sc ns m x=true):Gv cx A l env sc ns (exec (.Return x pos) env) (Da cx.T Φ (.ret m)):=by
  intro Γ H ρ s R e0 fr
  match m,x,hm with
  | .none,none,_ =>
    exact wpAny_Return_none ⟨_,ρ,rfl,FullS.refl _ _ _,R,.none,e0.st⟩
  | .some e,some x,hm =>
    exact Bz.to (Bt.bindK (K:=fun v Q _ s=>Q (.ret v) s) e0 ((eok G e x env sc ns Γ hm ha e0.len).val H ρ s R ⟨e0,fr⟩) (fun b v H1 ρ1 s1 _ F1 R1 e1 vr=>⟨v,ρ1,rfl,FullS.refl _ _ _,R1,vr,e1.st⟩) (fun _ Q E Q' E' s h k1 _=>k1 _ _ h) fun Q E h=>wpAny_Return_some h)
  | .none,some _,h=>cases (show false=true from h)
  | .some _,none,h=>cases (show false=true from h)
theorem Aa5 (G:Ground cx N A Φ l d) {c:ME} {t f:MSs} {x:Expr} {ts fs:List Stmt} {pos:Pos} (ha:C3 ns) (hm:ck N sc ns c x=true) (ht:Gv cx A l env sc ns (execs ts env) (execSs cx.T Φ t)) (hf:Gv cx A l env sc ns (execs fs env) (execSs cx.T Φ f)) :
    Gv cx A l env sc ns (exec (.If x ts fs pos) env) (Da cx.T Φ (.ite c t f)):=by
  intro Γ H ρ s R e0 fr
  refine Bz.to (Bt.bindK (K:=fun b Q E s=>if b=true then wpAny (model cx.prog cx.w) A (execs ts env) Q E s else wpAny (model cx.prog cx.w) A (execs fs env) Q E s) e0 ((eok G c x env sc ns Γ hm ha e0.len).tru H ρ s R ⟨e0,fr⟩) ?_ ?_ fun Q E h=>wpAny_If h)
  · intro b b' H1 ρ1 s1 _ F1 R1 e1 hb
    have hb':b'=b:=hb
    refine hb'▸?_
    cases b' with
    | true=>exact (Bz.of (ht Γ H1 ρ1 s1 R1 e1 (fr.full F1))).mono fun Q E h=>h
    | false=>exact (Bz.of (hf Γ H1 ρ1 s1 R1 e1 (fr.full F1))).mono fun Q E h=>by simpa using h
  · intro b Q E Q' E' s h k1 k2
    cases b
    · simp only [Bool.false_eq_true,if_false] at h ⊢;exact zE h k1 k2
    · simp only [if_true] at h ⊢;exact zE h k1 k2
set_option maxHeartbeats 4000000 in
mutual
theorem sok (G:Ground cx N A Φ (env :: l) d) (FC:N8 cx Φ d) (ha:C3 ns) (hef:env.frame=some env.locals):∀ (m:MS) (st:Stmt),ckS N sc ns m st=true -> Gv cx A (env :: l) env sc ns (exec st env) (Da cx.T Φ m)
  | .expr e,st,h=>by
    obtain ⟨t,h⟩:=Ab h
    rw [t.2]
    exact Wy G ha (an1 h) (an2 h)
  | .assign i e,st,h=>by
    obtain ⟨t,h⟩:=Ab h
    rw [t.2]
    exact Qn G ha (an1 h) (an2 h)
  | .setattr o n e,st,h=>by
    obtain ⟨t,h⟩:=Ab h
    rw [t.2]
    exact N6 G ha (an1 (an1 h)) (an2 (an1 h)) (an2 h)
  | .setitem o i e,st,h=>by
    obtain ⟨t,h⟩:=Ab h
    rw [t.2]
    exact N7 G ha (an1 (an1 h)) (an2 (an1 h)) (an2 h)
  | .ret e,st,h=>by
    obtain ⟨t,h⟩:=Ab h
    rw [t.2]
    exact Aa4 G ha h
  | .ite c t f,st,h=>by
    obtain ⟨p,h⟩:=Ab h
    rw [p.2]
    exact Aa5 G ha (an1 (an1 h)) (soks G FC ha hef t p.1.2.1 (an2 (an1 h))) (soks G FC ha hef f p.1.2.2.1 (an2 h))
  | .loop c b,st,h=>by
    obtain ⟨t,h⟩:=Ab h
    rw [t.2]
    exact Tb G ha (an1 h) (soks G FC ha hef b t.1.2.1 (an2 h))
  | .each i it b,st,h=>by
    obtain ⟨t,h⟩:=Ab h
    rw [t.2]
    exact Wo G.room.hh G.frames ha (an1 (an1 (an1 h))) (an2 (an1 h)) (fun Γ hΓ=>eok G it t.1.2.2.1 env sc ns Γ (an2 (an1 (an1 h))) ha hΓ) (soks G FC ha hef b t.1.2.2.2.1 (an2 h))
  | .eachZip i j a b body,st,h=>by
    obtain ⟨t,h⟩:=Ab h
    rw [t.2]
    obtain ⟨u,h4⟩:=Ab (an2 h)
    rw [u.2]
    exact N5 G.base G.room.hh G.frames ha (an1 (an1 (an1 h))) (an2 (an1 (an1 h))) (an1 (an1 (an1 h4))) (of_decide_eq_true (an2 (an1 (an1 h4)))) (A7 (an2 (an1 h4))) (A7 (an2 h4)) (fun Γ hΓ=>eok G a u.1.2.2.1 env sc ns Γ (an2 (an1 h4)) ha hΓ) (fun Γ hΓ=>eok G b u.1.2.2.2.1 env sc ns Γ (an2 h4) ha hΓ) (soks G FC ha hef body t.1.2.2.1 (an2 (an1 h)))
  | .raise c msg,st,h=>by
    obtain ⟨t,h⟩:=Ab h
    rw [t.2]
    have e:=of_decide_eq_true (an2 (an1 h))
    have hk:=an2 h
    rw [e] at hk ⊢
    exact Tc G ha (an1 (an1 (an1 h))) (an2 (an1 (an1 h))) hk
  | .tryx b hs,st,h=>by
    obtain ⟨t,h⟩:=Ab h
    rw [t.2]
    exact Aa3 G FC ha hef (soks G FC ha hef b t.1.1 (an1 h)) (an2 h)
theorem soks (G:Ground cx N A Φ (env :: l) d) (FC:N8 cx Φ d) (ha:C3 ns) (hef:env.frame=some env.locals):∀ (m:MSs) (sts:List Stmt),ckSs N sc ns m sts=true -> Gv cx A (env :: l) env sc ns (execs sts env) (execSs cx.T Φ m)
  | .nil,[],_=>by
    intro Γ H ρ s R e0 fr
    exact wpAny_execs_nil ⟨rfl,ρ,FullS.refl _ _ _,R,e0⟩
  | .nil,_ :: _,h=>by cases (show false=true from h)
  | .cons _ _,[],h=>by cases (show false=true from h)
  | .cons m ms,st :: sts,h=>by
    have h:=And.intro (an1 h) (an2 h)
    intro Γ H ρ s R e0 fr
    exact Pd e0 fr (sok G FC ha hef m st h.1 Γ H ρ s R e0 fr) (soks G FC ha hef ms sts h.2)
end
theorem Aa6 {d:Nat} (B:Base cx N) (defs:∀ (f:Nat) (a:Addr),cx.fns[f]?=some a -> ∃ g,cx.T.funs[f]?=some g) {Φ:Funs} (hΦ:Hh cx Φ d) (FC:N8 cx Φ d):Yn cx N Φ d :=
  fun body stmts env sc ns A l hck ha room hfr hef=>soks (Φ:=Φ) ⟨B,room,hfr,hΦ,defs⟩ FC ha hef body stmts hck
theorem Tf (B:Base cx N) (defs:∀ (f:Nat) (a:Addr),cx.fns[f]?=some a -> ∃ g,cx.T.funs[f]?=some g):∀ d,Hh cx (Ai cx.T d) d
  | 0=>fun k a args vals A l _ _ _ H ρ s R p=>trivial
  | d+1=>Hh.step B (Aa6 B defs (Tf B defs d) (Ww B defs d))
end
end Mine.Internal
namespace Mine.Internal
open PySem PySem.W.X
noncomputable def Fx (a b:Value):Bool:=decide (a=b)
theorem Dg {a b:Value} (h:Fx a b=true):a=b:=of_decide_eq_true h
noncomputable def Ad4:Value -> Option Int
  | .int b _=>some b
  | _=>none
theorem Wz {w:Value} {a:Int} (h:Ad4 w=some a):∃ t,w=.int a t:=by
  cases w with
  | int b t=>cases h;exact ⟨t,rfl⟩
  | _=>exact Ae h
noncomputable def Aa7:Value -> Option Str
  | .str b _=>some b
  | _=>none
theorem W0 {w:Value} {a:Str} (h:Aa7 w=some a):∃ t,w=.str a t:=by
  cases w with
  | str b t=>cases h;exact ⟨t,rfl⟩
  | _=>exact Ae h
noncomputable def Ad5 (v:Val) (w:Value):Bool:=match v with
  | .int a=>decide (Ad4 w=some a)
  | .str a=>decide (Aa7 w=some a) && decide (a.length <= 1000)
  | _=>false
theorem W1 {cx:Cx} {ρ:Rho} {h:Heap} {v:Val} {w:Value} (x:Ad5 v w=true):VR cx ρ h v w:=by
  cases v with
  | int a =>
    obtain ⟨t,hr0⟩:=Wz (of_decide_eq_true x);refine Eq.symm hr0▸?_
    exact .int _ _
  | str a =>
    have x:(decide (Aa7 w=some a) && decide (a.length <= 1000))=true:=x
    obtain ⟨t,hr1⟩:=W0 (of_decide_eq_true (an1 x));refine Eq.symm hr1▸?_
    exact .str _ _ (zC (of_decide_eq_true (an2 x)) (by skip;decide))
  | _=>exact Am x
theorem Bm {α:Type} {o:Option α} {f:α -> Bool} (h:seen o f=true):∃ a,o=some a /\ f a=true:=by
  cases o with
  | none=>exact Am h
  | some a=>exact ⟨a,rfl,h⟩
noncomputable def Ae5 (v:Value):Option { a:Addr // v=.ref a }:=match v with
  | .ref a=>some ⟨a,rfl⟩
  | _=>none
noncomputable def dVS (v:Value):Option { p:Str × Tok // v=.str p.1 p.2 }:=match v with
  | .str a b=>some ⟨(a,b),rfl⟩
  | _=>none
noncomputable def Apa (d:Data):Option { p:Array Value // d=.fields p }:=match d with
  | .fields p=>some ⟨p,rfl⟩
  | _=>none
noncomputable def Aib (d:Data):Option { p:FuncData // d=.func p }:=match d with
  | .func p=>some ⟨p,rfl⟩
  | _=>none
noncomputable def Agb (d:Data):Option { p:ClassData // d=.cls p }:=match d with
  | .cls p=>some ⟨p,rfl⟩
  | _=>none
noncomputable def Agc (d:Data):Option { p:Array DictEntry × Nat // d=.dict p.1 p.2 }:=match d with
  | .dict p q=>some ⟨(p,q),rfl⟩
  | _=>none
noncomputable def Apb (d:FuncBody):Option { p:List Stmt // d=.stmts p }:=match d with
  | .stmts p=>some ⟨p,rfl⟩
  | _=>none
noncomputable def Yr (t:Addr -> Option Obj) (c:Value) (q:Str):Bool :=
  seen (Ae5 c) fun a=>seen (t a.1) fun o=>seen (Apa o.data) fun vs=>seen (vs.1[1]?:Option Value) fun x=>seen (dVS x) fun y=>decide (y.1.1=q)
noncomputable def Agd (N:Names) (t:Addr -> Option Obj) (a:Nat) (f:MFun) (ns:List Str):Bool :=
  seen (t a) fun o=>seen (Aib o.data) fun p=>seen (Apb p.1.body) fun body=>ckF N f ns p.1.params body.1 p.1.scope && (p.1.closure.isEmpty && (Nat.beq p.1.globals mainGlobals && (Nat.beq p.1.builtins builtinsNs && (Fx p.1.defaults .none && (Fx p.1.kwdefaults .none && (Yr t p.1.code p.1.qualname && Fx o.cls (.type "function")))))))
noncomputable def Aa8 (N:Names) (t:Addr -> Option Obj):List Addr -> List MFun -> List (List Str) -> Bool
  | [],[],[]=>true
  | a :: as,f :: fs,ns :: nss=>Agd N t a f ns && Aa8 N t as fs nss
  | _,_,_=>false
noncomputable def Age (es:Array DictEntry) (N:Names) (T:Tab) (cls:List Value) (fns:List Addr):Bool :=
  (N.funs.all fun p=>seen fns[p.2]? fun a=>seen (nsFind es p.1) fun v=>Fx (.ref a) v) &&
  ((N.globs.all fun p=>seen T.globs[p.2]? fun m=>seen (nsFind es p.1) fun v=>Ad5 m v) &&
  ((N.clss.all fun p=>seen cls[p.2]? fun c=>(seen (nsFind es p.1) fun v=>Fx c v) || ((nsFind es p.1).isNone && seen (bootBuiltins p.1) fun v=>Fx c v && !decide (p.1=("__name__":Str)))) &&
  (Gp.all fun p=>(nsFind es p.1).isNone && (!decide (p.1=("__name__":Str)) && seen (bootBuiltins p.1) fun v=>Fx p.2 v))))
noncomputable def Agf (t:Addr -> Option Obj) (a:Nat):Bool:=seen (t a) fun o=>Fx o.cls (.type "function") && (Aib o.data).isSome
noncomputable def Pg (v:Value):Bool:=(dVS v).isSome
theorem Tg {v:Value} (h:Pg v=true):∃ a b,v=.str a b:=by
  obtain ⟨x,_⟩:=Option.isSome_iff_exists.mp h
  exact ⟨_,_,x.2⟩
noncomputable def Aa9 (o:Option Value):Bool:=seen o fun v=>Fx v (.builtin "object.__new__")
noncomputable def Ad6 (y:Str):Bool:=seen (fastLookup "object" y) fun r=>r.isNone
noncomputable def Th (y:Str):Bool:=(fastLookup "object" y).isSome
noncomputable def Agg (t:Addr -> Option Obj) (N:Names) (T:Tab) (attrs:List Str) (fns:List Addr) (c:Nat) (es:Array DictEntry):Bool :=
  (es.toList.all fun e=>Pg e.key) && ((nsFind es "__getattribute__").isNone && ((nsFind es "__getattr__").isNone && ((nsFind es "__setattr__").isNone &&
  ((attrs.all fun y=>(nsFind es y).isNone && Ad6 y) &&
  (N.meths.all fun p=>(T.meth c p.2).isNone || seen (T.meth c p.2) fun k=>seen fns[k]? fun fa=>seen (nsFind es p.1) fun v=>Fx (.ref fa) v && (Agf t fa && (!(attrs.contains p.1) && Th p.1)))))))
noncomputable def Ti (l:List (Option Value)):Option { p:Option Value × Option Value × Option Value × Option Value × Option Value × Option Value // l=[p.1,p.2.1,p.2.2.1,p.2.2.2.1,p.2.2.2.2.1,p.2.2.2.2.2] }:=match l with
  | [a,b,c,d,e,f]=>some ⟨(a,b,c,d,e,f),rfl⟩
  | _=>none
noncomputable def Aba (t:Addr -> Option Obj) (N:Names) (T:Tab) (attrs:List Str) (fns:List Addr) (c:Nat) (v:Value):Bool :=
  seen (Ae5 v) fun C=>seen (t C.1) fun o=>seen (Agb o.data) fun p=>Fx o.cls (.type "type") && (decide (p.1.mro=[.ref C.1,.type "object"]) && (p.1.hasDict && (!p.1.abstract && (!p.1.hasDel && ((seen (Ti o.slots.toList) fun q=>Aa9 q.1.2.2.2.2.1) && seen (t p.1.ns) fun on=>seen (Agc on.data) fun es=>Agg t N T attrs fns c es.1.1)))))
noncomputable def Km (t:Addr -> Option Obj) (N:Names) (T:Tab) (attrs:List Str) (fns:List Addr):Nat -> List Value -> Bool
  | _,[]=>true
  | c,v :: vs=>((T.meth c 0).isNone || Aba t N T attrs fns c v) && Km t N T attrs fns (c+1) vs
noncomputable def Ld (N:Names) (attrs:List Str):Bool :=
  (N.attrs.all fun p=>seen attrs[p.2]? fun y=>decide (y=p.1)) && (Io (attrs.map some) && (decide (attrs.length <= 1000) && Dz N.meths "__init__" 0))
noncomputable def Tj (t:Addr -> Option Obj) (N:Names) (T:Tab) (cls:List Value) (fns:List Addr) (nss:List (List Str)):Bool :=
  (seen (t mainGlobals) fun o=>seen (Agc o.data) fun es=>Age es.1.1 N T cls fns) && Aa8 N t fns T.funs nss
noncomputable def Has (h:Heap) (t:Addr -> Option Obj):Prop:=∀ a o,t a=some o -> h.get? a=some o
theorem Fy {h:Heap} {t:Addr -> Option Obj} (Z:Has h t) {a:Nat} {o:Obj} (e:t a=some o):h.get? a=some o:=Z a o e
set_option tactic.hygienic true in
theorem Qy {h:Heap} {t:Addr -> Option Obj} (Z:Has h t) {c:Value} {q:Str} (x:Yr t c q=true):h.CodeRec c q:=by
  obtain ⟨a,x⟩:=Ab x
  refine ex1 (Bm x) fun o zz=>Ac zz fun e x=>?_
  obtain ⟨vs,x⟩:=Ab x
  refine ex1 (Bm x) fun v zz=>Ac zz fun hv x=>?_
  obtain ⟨y,x⟩:=Ab x
  exact of_decide_eq_true x▸⟨_,o,vs.1,y.1.2,a.2,Fy Z e,vs.2,hv.trans (congrArg some y.2)⟩
theorem Abb {cx:Cx} {N:Names} {t:Addr -> Option Obj} (Z:Has cx.h₀ t) {a:Nat} {f:MFun} {ns:List Str} (x:Agd N t a f ns=true):FnOk cx N a f:=by
  refine ex1 (Bm x) fun o zz=>Ac zz fun e x=>?_
  obtain ⟨p,x⟩:=Ab x
  obtain ⟨b,x⟩:=Ab x
  have x2:=an2 x
  have x3:=an2 x2
  have x4:=an2 x3
  have x5:=an2 x4
  have x6:=an2 x5
  have x7:=an2 x6
  exact ⟨o,p.1,b.1,ns,Fy Z e,Dg (an2 x7),p.2,Qy Z (an1 x7),b.2,List.isEmpty_iff.mp (an1 x2),Nat.eq_of_beq_eq_true (an1 x3),Nat.eq_of_beq_eq_true (an1 x4),Dg (an1 x5),Dg (an1 x6),an1 x⟩
theorem Mu {N:Names} {t:Addr -> Option Obj}:∀ {fns:List Addr} {fs:List MFun} {nss:List (List Str)},Aa8 N t fns fs nss=true -> fns.length=fs.length /\ ∀ (k:Nat) (a:Addr) (f:MFun),fns[k]?=some a -> fs[k]?=some f -> ∃ ns,Agd N t a f ns=true
  | [],[],[],_=>⟨rfl,fun k a f h _=>by simp at h⟩
  | a :: as,f :: fs,ns :: nss,h=>by
    have h:=And.intro (an1 h) (an2 h)
    obtain ⟨l,r⟩:=Mu h.2
    refine ⟨by simp [l],fun k b g h1 h2=>?_⟩
    cases k with
    | zero=>simp at h1 h2;subst h1 h2;exact ⟨ns,h.1⟩
    | succ k=>exact r k b g (by simpa using h1) (by simpa using h2)
  | [],[],_ :: _,h=>by cases (show false=true from h)
  | [],_ :: _,_,h=>by cases (show false=true from h)
  | _ :: _,[],_,h=>by cases (show false=true from h)
  | _ :: _,_ :: _,[],h=>by cases (show false=true from h)
theorem W2 {y:Str} (h:Ad6 y=true):typeLookup (.type "object") y=pure none:=by
  refine ex1 (Bm h) fun r zz=>Ac zz fun e h=>?_
  rw [typeLookup_type,builtinLookup_eq_fast,e,Option.isNone_iff_eq_none.mp h]
theorem Tk {y:Str} (h:Th y=true):∃ r,typeLookup (.type "object") y=pure r:=by
  obtain ⟨r,e⟩:=Option.isSome_iff_exists.mp h
  exact ⟨r,by rw [typeLookup_type,builtinLookup_eq_fast,e]⟩
theorem Abc {h:Heap} {t:Addr -> Option Obj} (Z:Has h t) {a:Nat} (x:Agf t a=true):∃ o fd,h.get? a=some o /\ o.cls=.type "function" /\ o.data=.func fd:=by
  refine ex1 (Bm x) fun o zz=>Ac zz fun e x=>?_
  obtain ⟨p,_⟩:=Option.isSome_iff_exists.mp (an2 x)
  exact ⟨o,p.1,Fy Z e,Dg (an1 x),p.2⟩
theorem Ys {o:Obj} {cd:ClassData} {C:Addr} {bm:List Value} {k0 k1 k2 k3 k5:Option Value} {nw:String} (x1:o.cls=.type "type") (hd:o.data=.cls cd) (x2:cd.mro=.ref C :: bm) (x5:cd.hasDel=false) (hp:o.slots.toList=[k0,k1,k2,k3,some (.builtin nw),k5]) :
    o=excClassObj cd.name cd.qualname C cd.ns cd.bases bm cd.hasDict cd.slotNames cd.subclasses cd.abstract cd.collection o.dict k0 k1 k2 k3 k5 nw:=by
  obtain ⟨oc,od,odata,oslots⟩:=o
  obtain ⟨cn,cb,cm,cns,cq,chd,csn,csub,cab,ccol,cdel⟩:=cd
  cases x1;cases hd;cases x2;cases x5
  exact congrArg _ (Array.toList_inj.mp hp)
theorem Tl {l:List (Option Value)} {g:Option Value -> Bool} {v:Value} (hg:∀ o,g o=true -> o=some v) (x:(seen (Ti l) fun q=>g q.1.2.2.2.2.1)=true):∃ k0 k1 k2 k3 k5,l=[k0,k1,k2,k3,some v,k5]:=by
  obtain ⟨q,x⟩:=Ab x
  exact ⟨q.1.1,q.1.2.1,q.1.2.2.1,q.1.2.2.2.1,q.1.2.2.2.2.2,hg _ x▸q.2⟩
theorem Tm {o:Option Value} {v:Value} (x:(seen o fun w=>Fx w v)=true):o=some v:=by
  refine ex1 (Bm x) fun w zz=>Ac zz fun e x=>?_
  exact e.trans (congrArg some (Dg x))
theorem Tn {es:Array DictEntry} (x:(es.toList.all fun e=>Pg e.key)=true):∀ e∈es,∃ a b,e.key=.str a b:=fun e he=>Tg (List.all_eq_true.mp x e (Array.mem_toList_iff.mpr he))
theorem W3 {cx:Cx} {N:Names} {t:Addr -> Option Obj} (Z:Has cx.h₀ t) {c:Nat} {es:Array DictEntry} {z:Str} {m k:Nat} (x:(N.meths.all fun p=>(cx.T.meth c p.2).isNone || seen (cx.T.meth c p.2) fun k=>seen cx.fns[k]? fun fa=>seen (nsFind es p.1) fun v=>Fx (.ref fa) v && (Agf t fa && (!(cx.attrs.contains p.1) && Th p.1)))=true) (hz:N.meths.lookup z=some m) (hk:cx.T.meth c m=some k) :
    ∃ fa fo fd,cx.fns[k]?=some fa /\ nsFind es z=some (.ref fa) /\ cx.h₀.get? fa=some fo /\ fo.cls=.type "function" /\ fo.data=.func fd /\ (∀ n:Nat,cx.attrs[n]?≠some z) /\ ∃ r,typeLookup (.type "object") z=pure r:=by
  have x:=List.all_eq_true.mp x (z,m) (mem_of_lookup hz)
  rcases (Bool.or_eq_true _ _).mp x with q | q
  · cases hk.symm.trans (Option.isNone_iff_eq_none.mp q)
  · refine ex1 (Bm q) fun k' zz=>Ac zz fun e q1=>?_
    cases hk.symm.trans e
    refine ex1 (Bm q1) fun fa zz=>Ac zz fun hf q2=>?_
    refine ex1 (Bm q2) fun v zz=>Ac zz fun hv q=>?_
    refine ex2 (Abc Z (an1 (an2 q))) fun fo fd zz=>An zz fun f1 f2 f3=>?_
    exact ⟨fa,fo,fd,hf,hv.trans (congrArg some (Dg (an1 q)).symm),f1,f2,f3,fun n hn=>of_decide_eq_false ((List.contains_eq_mem z cx.attrs).symm.trans (not_not (an1 (an2 (an2 q))))) (zF hn),Tk (an2 (an2 (an2 q)))⟩
theorem W4 {cx:Cx} {N:Names} {t:Addr -> Option Obj} (Z:Has cx.h₀ t) {c:Nat} {v:Value} (x:Aba t N cx.T cx.attrs cx.fns c v=true):∃ C,v=.ref C /\ ClsOk cx N c C:=by
  obtain ⟨C,x⟩:=Ab x
  refine ex1 (Bm x) fun o zz=>Ac zz fun e x=>?_
  obtain ⟨p,x⟩:=Ab x
  have x2:=an2 x
  have x3:=an2 x2
  have x4:=an2 x3
  have x5:=an2 x4
  have x6:=an2 x5
  refine ex1 (Bm (an2 x6)) fun on zz=>Ac zz fun en x7=>?_
  obtain ⟨es,x7⟩:=Ab x7
  refine ex5 (Tl (fun _=>Tm) (an1 x6)) fun k0 k1 k2 k3 k5 hp=>?_
  have ho:=Ys (Dg (an1 x)) p.2 (of_decide_eq_true (an1 x2)) (not_not (an1 x5)) hp
  rw [an1 x3,not_not (an1 x4)] at ho
  have y2:=an2 x7
  have y3:=an2 y2
  have y4:=an2 y3
  have y5:=an2 y4
  exact ⟨C.1,C.2,p.1.name,p.1.qualname,p.1.ns,p.1.bases,p.1.slotNames,p.1.subclasses,p.1.collection,o.dict,k0,k1,k2,k3,k5,fun z=>nsFind es.1.1 z,ho▸Fy Z e,⟨on,es.1.1,es.1.2,Fy Z en,es.2,Tn (an1 x7),fun _=>rfl⟩,Option.isNone_iff_eq_none.mp (an1 y2),Option.isNone_iff_eq_none.mp (an1 y3),Option.isNone_iff_eq_none.mp (an1 y4),
    fun n z hz=>have w:=List.all_eq_true.mp (an1 y5) z (zF hz);⟨Option.isNone_iff_eq_none.mp (an1 w),W2 (an2 w)⟩,fun z m k hz hk=>W3 Z (an2 y5) hz hk⟩
theorem Ko {N:Names} {T:Tab} {t:Addr -> Option Obj} {attrs:List Str} {fns:List Addr}:∀ {l:List Value} {c i:Nat} {v:Value},Km t N T attrs fns c l=true -> l[i]?=some v -> (T.meth (c+i) 0).isSome=true -> Aba t N T attrs fns (c+i) v=true
  | [],_,i,_,_,h,_=>by simp at h
  | w :: ws,c,i,v,x,h,hm=>by
    have x:=And.intro (Bool.or_eq_true _ _ |>.mp (an1 x)) (an2 x)
    cases i with
    | zero =>
      simp at h;subst h
      rcases x.1 with q | q
      · rw [Nat.add_zero,Option.isSome_iff_ne_none] at hm
        exact absurd (Option.isNone_iff_eq_none.mp q) hm
      · exact q
    | succ i =>
      have e:c+(i+1)=c+1+i:=by exact Afg
      rw [e] at hm ⊢
      exact Ko x.2 (by simpa using h) hm
theorem Qz {cx:Cx} {N:Names} {t:Addr -> Option Obj} (Z:Has cx.h₀ t) (h1:Km t N cx.T cx.attrs cx.fns 0 cx.cls=true) (h2:Ld N cx.attrs=true):ClsBase cx N:=by
  have a3:=of_decide_eq_true (an1 (an2 (an2 h2)))
  have get:∀ (c:Nat) (v:Value),cx.cls[c]?=some v -> (cx.T.meth c 0).isSome=true -> ∃ C,v=.ref C /\ ClsOk cx N c C:=fun c v hc hm=>by
    have:=Ko h1 hc (by rw [Nat.zero_add];exact hm)
    rw [Nat.zero_add] at this
    exact W4 Z this
  refine ⟨fun y n h=>?_,fun i j y hi hj=>?_,by rw [sizeLine_eq];exact o22 a3,Co (an2 (an2 (an2 h2))),fun c v hc hm=>?_,fun c C hc hm=>?_⟩
  · refine ex1 (Bm (List.all_eq_true.mp (an1 h2) (y,n) (mem_of_lookup h))) fun z zz=>Ac zz fun hz q=>?_
    exact hz.trans (congrArg some (of_decide_eq_true q))
  · exact Gf (an1 (an2 h2)) i j y (by rw [List.getElem?_map,hi];rfl) (by rw [List.getElem?_map,hj];rfl)
  · refine ex1 (get c v hc hm) fun C zz=>Ac zz fun e _=>?_
    exact ⟨C,e⟩
  · refine ex1 (get c (.ref C) hc hm) fun C' zz=>Ac zz fun e k=>?_
    cases e;exact k
noncomputable def Jq (t:Addr -> Option Obj):List Addr -> PySem.W.Frag
  | []=>[]
  | a :: as=>match t a with
    | some o=>(a,o) :: Jq t as
    | none=>Jq t as
set_option tactic.hygienic true in
theorem N9 {h:Heap} {t:Addr -> Option Obj} (Z:Has h t):∀ as,(Jq t as).In h
  | []=>fun a o e=>by exact Ae e
  | a :: as=>fun b o e=>by
    have e:(match t a with | some o=>(a,o) :: Jq t as | none=>Jq t as).lookup b=some o:=e
    split at e
    · rename_i o' ho
      simp only [List.lookup] at e
      split at e
      · rename_i q;cases e;rw [beq_iff_eq.mp q];exact Fy Z ho
      · exact N9 Z as b o e
    · exact N9 Z as b o e
noncomputable def To (t:Addr -> Option Obj) (v:Value):List Addr:=match v with
  | .ref a=>(match t a with
    | some o=>(match o.data with
      | .cls cd=>[a,cd.ns]
      | _=>[])
    | none=>[])
  | _=>[]
noncomputable def Le (t:Addr -> Option Obj) (a:Addr):Bool:=seen (t a) fun on=>seen (Agc on.data) fun es=>(es.1.1.toList.all fun e=>Pg e.key) && (nsFind es.1.1 "__init__").isNone
theorem Jr {h:Heap} {t:Addr -> Option Obj} (Z:Has h t) {a:Addr} (x:Le t a=true):∃ m,h.Ns a m /\ m "__init__"=none:=by
  refine ex1 (Bm x) fun on zz=>Ac zz fun en x=>?_
  obtain ⟨es,x⟩:=Ab x
  exact ⟨fun z=>nsFind es.1.1 z,⟨on,es.1.1,es.1.2,Fy Z en,es.2,Tn (an1 x),fun _=>rfl⟩,Option.isNone_iff_eq_none.mp (an2 x)⟩
noncomputable def Ad7 (t:Addr -> Option Obj) (v:Value):Bool:=seen (Ae5 v) fun a=>seen (t a.1) fun o=>seen (Agb o.data) fun p=>Le t p.1.ns
theorem W5 {h:Heap} {t:Addr -> Option Obj} (Z:Has h t) {v:Value} {bm tl:List Value} (x:Ad7 t v=true) (T:OwnTail h bm tl):OwnTail h bm (v :: tl):=by
  obtain ⟨a,x⟩:=Ab x
  refine ex1 (Bm x) fun o zz=>Ac zz fun e x=>?_
  obtain ⟨p,x⟩:=Ab x
  refine ex1 (Jr Z x) fun m zz=>Ac zz fun n i=>?_
  obtain ⟨oc,od,odata,oslots⟩:=o
  obtain ⟨p,hd⟩:=p
  dsimp only at hd
  subst hd
  exact a.2▸.own (Fy Z e) n i T
noncomputable def Tp (t:Addr -> Option Obj):List Value -> Bool
  | []=>false
  | v :: vs=>decide (v :: vs=Af4) || (Ad7 t v && Tp t vs)
theorem Mv {h:Heap} {t:Addr -> Option Obj} (Z:Has h t):∀ {vs:List Value},Tp t vs=true -> OwnTail h Af4 vs
  | [],x=>by cases (show false=true from x)
  | v :: vs,x=>by
    rcases (Bool.or_eq_true _ _).mp x with q | q
    · rw [of_decide_eq_true q];exact .base
    · exact W5 Z (an1 q) (Mv Z (an2 q))
noncomputable def Tq (T:Tab) (K:PySem.W.Frag) (C:Addr) (bm:List Value) (c:Nat):Nat -> List Value -> Bool
  | _,[]=>true
  | d,D :: Ds=>(Ow K D && decide (T.sub c d=(Value.ref C :: bm).contains D) && decide (PySem.W.mroIn K C D=some (T.sub c d))) && Tq T K C bm c (d+1) Ds
theorem Hz {T:Tab} {K:PySem.W.Frag} {C:Addr} {bm:List Value} {c:Nat}:∀ {l:List Value} {d i:Nat} {D:Value},Tq T K C bm c d l=true -> l[i]?=some D -> Ow K D=true /\ T.sub c (d+i)=(Value.ref C :: bm).contains D /\ PySem.W.mroIn K C D=some (T.sub c (d+i))
  | [],_,i,_,_,h=>by simp at h
  | w :: ws,d,i,D,x,h=>by
    cases i with
    | zero =>
      simp at h;subst h
      have y:=an1 x
      exact ⟨an1 (an1 y),of_decide_eq_true (an2 (an1 y)),of_decide_eq_true (an2 y)⟩
    | succ i =>
      have e:d+(i+1)=d+1+i:=by exact Afg
      rw [e]
      exact Hz (an2 x) (by simpa using h)
noncomputable def Aic (K:PySem.W.Frag) (D:Addr):Bool :=
  decide (PySem.W.findIn K (.ref D) "__getattribute__"=some (some (.builtin "BaseException.__getattribute__"))) && decide (PySem.W.findIn K (.ref D) "__getattr__"=some none) && decide (PySem.W.mroIn K D (.type "BaseException")=some true) &&
  PySem.W.hasDictIn K D && decide (PySem.W.findIn K (.ref D) "__class__"=some (some (.builtin "object.__class__"))) &&
  decide (PySem.W.specialIn K (.builtin "object.__class__") "__get__"=some (some (.builtin "getset_descriptor.__get__"))) && decide (PySem.W.takesIn K (.builtin "object.__class__")=some true) && decide (PySem.W.mroIn K D (.type "object")=some true)
theorem Abd {K:PySem.W.Frag} {D:Addr} (x:Aic K D=true):ExcK K D :=
  have x1:=an1 (an1 (an1 (an1 x)))
  ⟨of_decide_eq_true (an1 (an1 (an1 x1))),of_decide_eq_true (an2 (an1 (an1 x1))),of_decide_eq_true (an2 (an1 x1)),an2 x1,of_decide_eq_true (an2 (an1 (an1 (an1 x)))),of_decide_eq_true (an2 (an1 (an1 x))),of_decide_eq_true (an2 (an1 x)),of_decide_eq_true (an2 x)⟩
noncomputable def Ad8 (o:Option Value):Bool:=seen o fun v=>Fx v (.builtin "ValueError.__new__")
noncomputable def Abe (t:Addr -> Option Obj) (T:Tab) (cls:List Value) (c:Nat) (v:Value):Bool :=
  seen (Ae5 v) fun C=>seen (t C.1) fun o=>seen (Agb o.data) fun p=>Fx o.cls (.type "type") && (decide (p.1.mro=.ref C.1 :: p.1.mro.tail) && (!p.1.hasDel && ((seen (Ti o.slots.toList) fun q=>Ad8 q.1.2.2.2.2.1) && (Le t p.1.ns && (Tp t p.1.mro.tail && (Tq T (Jq t ((cls++p.1.mro).flatMap (To t))) C.1 p.1.mro.tail c 0 cls && Aic (Jq t ((cls++p.1.mro).flatMap (To t))) C.1))))))
noncomputable def Tr (t:Addr -> Option Obj) (T:Tab) (cls:List Value):Nat -> List Value -> Bool
  | _,[]=>true
  | c,v :: vs=>(!T.isExc c || Abe t T cls c v) && Tr t T cls (c+1) vs
noncomputable def Ph (t:Addr -> Option Obj) (T:Tab) (cls:List Value):Bool:=Tr t T cls 0 cls && decide (T.subs.length <= cls.length)
theorem W6 {cx:Cx} {t:Addr -> Option Obj} (Z:Has cx.h₀ t) {c:Nat} {v:Value} (x:Abe t cx.T cx.cls c v=true):∃ C,v=.ref C /\ ExcOk cx c C:=by
  obtain ⟨C,x⟩:=Ab x
  refine ex1 (Bm x) fun o zz=>Ac zz fun e x=>?_
  obtain ⟨p,x⟩:=Ab x
  have x2:=an2 x
  have x3:=an2 x2
  have x4:=an2 x3
  have x5:=an2 x4
  have x6:=an2 x5
  refine ex1 (Jr Z (an1 x5)) fun m zz=>Ac zz fun n i=>?_
  refine ex5 (Tl (fun _=>Tm) (an1 x4)) fun k0 k1 k2 k3 k5 hp=>?_
  have ho:=Ys (Dg (an1 x)) p.2 (of_decide_eq_true (an1 x2)) (not_not (an1 x3)) hp
  have x7:=an1 (an2 x6)
  refine ⟨C.1,C.2,⟨p.1.name,p.1.qualname,p.1.ns,p.1.bases,p.1.mro.tail,p.1.hasDict,p.1.slotNames,p.1.subclasses,p.1.abstract,p.1.collection,o.dict,k0,k1,k2,k3,k5,m,ho▸Fy Z e,n,i,Mv Z (an1 x6),fun d D hD=>?_⟩,⟨_,N9 Z _,Abd (an2 (an2 x6)),fun d D hD=>?_⟩⟩
  · have:=(Hz x7 hD).2.1
    rwa [Nat.zero_add] at this
  · have:=Hz x7 hD
    rw [Nat.zero_add] at this
    exact ⟨this.1,this.2.2⟩
theorem Kp {t:Addr -> Option Obj} {T:Tab} {cls:List Value}:∀ {l:List Value} {c i:Nat} {v:Value},Tr t T cls c l=true -> l[i]?=some v -> T.isExc (c+i)=true -> Abe t T cls (c+i) v=true
  | [],_,i,_,_,h,_=>by simp at h
  | w :: ws,c,i,v,x,h,hm=>by
    cases i with
    | zero =>
      simp at h;subst h
      rcases (Bool.or_eq_true _ _).mp (an1 x) with q | q
      · have hm:T.isExc c=true:=hm
        rw [hm] at q;exact Am q
      · exact q
    | succ i =>
      have e:c+(i+1)=c+1+i:=by exact Afg
      rw [e] at hm ⊢
      exact Kp (an2 x) (by simpa using h) hm
theorem W7 {T:Tab} {c:Nat} (h:T.isExc c=true):c < T.subs.length:=by
  have h:2 <= ((T.subs[c]?).getD []).length:=of_decide_eq_true (an2 h)
  cases q:T.subs[c]? with
  | none=>rw [q] at h;cases (show 2 <= 0 from h)
  | some l=>exact (List.getElem?_eq_some_iff.mp q).1
theorem Ts {cx:Cx} {t:Addr -> Option Obj} (Z:Has cx.h₀ t) (x:Ph t cx.T cx.cls=true) (c:Nat) (h:cx.T.isExc c=true):∃ C,cx.cls[c]?=some (.ref C) /\ ExcOk cx c C:=by
  have lt:c < cx.cls.length:=zD (W7 h) (of_decide_eq_true (an2 x))
  have e:=List.getElem?_eq_getElem lt
  have y:=Kp (an1 x) e (by rw [Nat.zero_add];exact h)
  rw [Nat.zero_add] at y
  refine ex1 (W6 Z y) fun C zz=>Ac zz fun q k=>?_
  exact ⟨C,by rw [e,q],k⟩
theorem H6 {α:Type} {l:List (Str × α)} {p:Str × α -> Bool} (h:l.all p=true) {x:Str} {k:α} (e:l.lookup x=some k):p (x,k)=true:=List.all_eq_true.mp h _ (mem_of_lookup e)
theorem Oa {o:Option Value} {v:Value} (x:(seen o fun w=>Fx v w)=true):o=some v:=by
  refine ex1 (Bm x) fun w zz=>Ac zz fun e x=>?_
  exact e.trans (congrArg some (Dg x).symm)
theorem Abf {cx:Cx} {N:Names} {t:Addr -> Option Obj} {nss:List (List Str)} {mg mb:Str -> Option Value} (Z:Has cx.h₀ t) (g:cx.h₀.Ns mainGlobals mg) (b:cx.h₀.Ns builtinsNs mb) (hb:∀ x:Str,x≠"__name__" -> mb x=bootBuiltins x) (lim:cx.h₀.NoLimit)
    (ok:Tj t N cx.T cx.cls cx.fns nss=true) (okc:Km t N cx.T cx.attrs cx.fns 0 cx.cls=true) (oka:Ld N cx.attrs=true) (okx:Ph t cx.T cx.cls=true):Base cx N /\ ∀ (f:Nat) (a:Addr),cx.fns[f]?=some a -> ∃ g,cx.T.funs[f]?=some g:=by
  obtain ⟨hlen,hfn⟩:=Mu (an2 ok)
  refine ex1 (Bm (an1 ok)) fun o zz=>Ac zz fun e ok=>?_
  obtain ⟨es,ok⟩:=Ab ok
  have hmg:∀ x,mg x=nsFind es.1.1 x:=by
    refine Af fun G kG=>?_
    refine ex3 g fun o' es' ep' zz=>Cm zz fun e' d' _ h'=>?_
    refine kG ?_
    cases (Fy Z e).symm.trans e'
    cases es.2.symm.trans d'
    exact fun x=>(h' x).symm
  have c2:=an2 ok
  have c3:=an2 c2
  refine ⟨⟨⟨mg,mb,g,b,fun x k h=>?_,fun x k h=>?_,fun x c h=>?_,fun p hp=>?_⟩,lim,fun k a f h1 h2=>?_,Qz Z okc oka,Ts Z okx⟩,fun f a h=>?_⟩
  · refine ex1 (Bm (H6 (an1 ok) h)) fun a zz=>Ac zz fun e q=>?_
    exact ⟨a,e,(hmg x).trans (Oa q)⟩
  · refine ex1 (Bm (H6 (an1 c2) h)) fun m zz=>Ac zz fun e q=>?_
    refine ex1 (Bm q) fun v zz=>Ac zz fun e' q=>?_
    exact ⟨m,v,e,(hmg x).trans e',fun ρ h=>W1 q⟩
  · refine ex1 (Bm (H6 (an1 c3) h)) fun c' zz=>Ac zz fun e q=>?_
    refine ⟨c',e,((Bool.or_eq_true _ _).mp q).imp (fun q=>(hmg x).trans (Oa q)) fun q=>⟨(hmg x).trans (Option.isNone_iff_eq_none.mp (an1 q)),?_⟩⟩
    refine ex1 (Bm (an2 q)) fun v zz=>Ac zz fun e' q=>?_
    exact (hb _ (of_decide_eq_false (not_not (an2 q)))).trans (e'.trans (congrArg some (Dg (an1 q)).symm))
  · have q:=List.all_eq_true.mp (an2 c3) p hp
    exact ⟨(hmg _).trans (Option.isNone_iff_eq_none.mp (an1 q)),(hb _ (of_decide_eq_false (not_not (an1 (an2 q))))).trans (Oa (an2 (an2 q)))⟩
  · obtain ⟨ns,h⟩:=hfn k a f h1 h2
    exact Abb Z h
  · exact ⟨_,List.getElem?_eq_getElem (hlen▸(List.getElem?_eq_some_iff.mp h).1)⟩
theorem Abg {h:Heap} {a:Addr} {m m':Str -> Option Value} (x:h.Ns a m) (y:h.Ns a m') (n:Str):m n=m' n:=by
  refine Af fun G kG=>?_
  refine ex3 x fun o es ep zz=>Cm zz fun e d _ f=>?_
  refine ex3 y fun o' es' ep' zz=>Cm zz fun e' d' _ f'=>?_
  refine kG ?_
  rw [e] at e';cases e'
  rw [d] at d';cases d'
  rw [<- f n,f' n]
theorem Q0 {cx:Cx} {ρ:Rho} {h:Heap} {vs:List Value} {ns:List Int} (x:PyProof.Rows.IntsAre vs ns):VRs cx ρ h (ns.map .int) vs:=by
  induction x with
  | nil=>exact .nil
  | cons n tk r ih=>exact .cons (.int n tk) ih
theorem finish {prog:Program} {w:World} {N:Names} {t:Addr -> Option Obj} {T:Tab} {cls:List Value} {attrs:List Str} {fns:List Addr} {nss:List (List Str)} {s₁:Shared} {mg mb:Str -> Option Value} {ns:List Int} {vs:List Value} {fa a:Addr} {k d:Nat} {Q:Value -> Shared -> Prop} {E:Value -> Shared -> Prop}
    (Z:Has s₁.heap t) (g:s₁.heap.Ns mainGlobals mg) (b:s₁.heap.Ns builtinsNs mb) (hb:∀ x:Str,x≠"__name__" -> mb x=bootBuiltins x) (lim:s₁.heap.NoLimit) (ok:Tj t N T cls fns nss=true) (okc:Km t N T attrs fns 0 cls=true) (oka:Ld N attrs=true) (okx:Ph t T cls=true) (hsys:(t sysModules).isSome=true)
    (hobj:s₁.heap.get? a=some (Bq vs 0)) (hI:PyProof.Rows.IntsAre vs ns) (hlen:ns.length <= 63) (hf:mg "law"=some (.ref fa)) (hk:N.funs.lookup ("law":Str)=some k) (room:Room callerA d)
    (hlaw:∃ H',Ai T d k [.script ns] []=.ok (.bool true) H')
    (kq:∀ s',(∀ b o,s₁.heap.get? b=some o -> s'.heap.get? b=some o) -> s'.os=s₁.os -> s'.gens=s₁.gens -> Q (.bool true) s') :
    wpAny (model prog w) callerA (call (.ref fa) [.ref a]) Q E s₁:=by
  refine Af fun G kG=>?_
  obtain ⟨B,defs⟩:=Abf (cx:=⟨prog,w,T,s₁,cls,attrs,fns⟩) (N:=N) (nss:=nss) Z g b hb lim ok okc oka okx
  refine ex2 B.ns fun mg' mb' zz=>Cm zz fun g' b' q _=>?_
  refine ex1 (q "law" k hk) fun a' zz=>Ac zz fun ha' hx=>?_
  refine kG ?_
  have e:fa=a':=by
    have:=Abg g g' "law"
    rw [hf,hx] at this
    cases this;rfl
  subst e
  obtain ⟨o1,e1⟩:=Option.isSome_iff_exists.mp hsys
  have R:Rel ⟨prog,w,T,s₁,cls,attrs,fns⟩ [] [] s₁ :=
    ⟨rfl,fun l o p h _=>by simp at h,fun i j p q _ h _=>by simp at h,fun p hp=>by simp at hp,fun _ _ e=>e,⟨o1,Fy Z e1⟩,⟨s₁.heap,s₁.toks,rfl⟩⟩
  obtain ⟨H',hH⟩:=hlaw
  have x:=Tf B defs d k fa [.script ns] [.ref a] callerA [] ha' room.toF rfl [] [] s₁ R ⟨.cons (.script hobj (by rw [sizeLine_eq];exact Ajr hlen) (Q0 hI)) .nil,fun en he=>by cases he⟩
  change Bf _ callerA (Ai T d k [.script ns] []) _ _ _ _ at x
  rw [hH] at x
  refine zE x (fun v s' ⟨ρ',F,R',vr⟩=>?_) fun _ _ q=>q.elim
  have vr':VR ⟨prog,w,T,s₁,cls,attrs,fns⟩ ρ' s'.heap (.bool true) v:=vr
  cases vr'
  refine ex2 R'.rest fun h tk e=>?_
  exact kq s' R'.base (by rw [e]) (by rw [e])
end Mine.Internal
namespace Mine.Internal
open PySem PySem.W PySem.Calls
noncomputable def Js (tb:String -> Option Builtin) (p:Program) (w:World) (n₀:Nat) (ann:Option Value):Nat -> SharedT -> Thread -> Option SharedT
  | 0,_,_=>none
  | n+1,s,t=>match through t with
    | true=>some s
    | false=>match stepOk n₀ ann t with
      | false=>none
      | true=>match stepT (denote tb) p w s t with
        | some (s',t')=>Js tb p w n₀ ann n s' t'
        | none=>none
theorem It {tb:String -> Option Builtin} {p:Program} {w:World} {n₀:Nat} {ann:Option Value} {n:Nat} {s:SharedT} {t:Thread}:Js tb p w n₀ ann (n+1) s t=(match through t with
    | true=>some s
    | false=>match stepOk n₀ ann t with
      | false=>none
      | true=>match stepT (denote tb) p w s t with
        | some (s',t')=>Js tb p w n₀ ann n s' t'
        | none=>none):=rfl
theorem Kq {tb:String -> Option Builtin} {p:Program} {w:World} {n₀:Nat} {ann:Option Value}:∀ {n:Nat} {s s':SharedT} {t:Thread},Js tb p w n₀ ann n s t=some s' -> topRun tb p w n₀ ann n s.abs t=some s'.abs
  | 0,_,_,_,h=>by cases h
  | n+1,s,s',t,h=>by
    rw [It] at h
    unfold topRun
    cases ht:through t with
    | true=>rw [ht] at h;cases h;rfl
    | false =>
      rw [ht] at h
      cases hk:stepOk n₀ ann t with
      | false=>rw [hk] at h;cases h
      | true =>
        rw [hk] at h
        cases hs:stepT (denote tb) p w s t with
        | none=>rw [hs] at h;exact nomatch h
        | some r=>obtain ⟨s₂,t₂⟩:=r;rw [hs] at h;rw [stepT_spec hs];exact Kq h
noncomputable def Ob (p:Program) (w:World) (n₀:Nat) (ann:Option Value) (n:Nat):SharedT -> Thread -> Option SharedT :=
  @Nat.rec (fun _=>SharedT -> Thread -> Option SharedT) (fun _ _=>none) (fun _ ih s t=>@Bool.rec (fun _=>Option SharedT)
    (@Bool.rec (fun _=>Option SharedT) none (@Option.rec (SharedT × Thread) (fun _=>Option SharedT) none (fun r=>ih r.1 r.2) (PySem.W.Fast.tw10156331382660048174 (PySem.W.Fast.tw11892475500146522536 treeTable) p w s t)) (PySem.W.Fast.tw6613529449190102663 n₀ ann t)) (some s) (through t)) n
theorem Kr {p:Program} {w:World} {n₀:Nat} {ann:Option Value}:∀ (n:Nat) (s:SharedT) (t:Thread),Ob p w n₀ ann n s t=Js treeTable p w n₀ ann n s t
  | 0,_,_=>rfl
  | n+1,s,t=>by
    show @Bool.rec (fun _=>Option SharedT) (@Bool.rec (fun _=>Option SharedT) none (@Option.rec (SharedT × Thread) (fun _=>Option SharedT) none (fun r=>Ob p w n₀ ann n r.1 r.2) (PySem.W.Fast.tw10156331382660048174 (PySem.W.Fast.tw11892475500146522536 treeTable) p w s t)) (PySem.W.Fast.tw6613529449190102663 n₀ ann t)) (some s) (through t)=_
    rw [<- PySem.W.Fast.te10156331382660048174,<- PySem.W.Fast.te11892475500146522536,<- PySem.W.Fast.te6613529449190102663]
    rw [It]
    cases through t with
    | true=>rfl
    | false =>
      cases stepOk n₀ ann t with
      | false=>rfl
      | true =>
        cases hs:stepT (denote treeTable) p w s t with
        | none=>rfl
        | some r=>obtain ⟨s₂,t₂⟩:=r;exact Kr n s₂ t₂
noncomputable def Agh (P:Params):BT:=((boot_heap P).objs.toList.foldl (fun (x:BT × Nat) o=>(x.1.ins x.2 o,x.2+1)) (.nil,0)).1
noncomputable def Ad9 (w:World) (os:OsState):SharedT:=⟨Agh w.params,(boot_heap w.params).objs.size,(boot_heap w.params).life,#[],boot_drawn,boot_toks,os⟩
theorem Tt (w:World):((boot_heap w.params).isNs mainGlobals && (#[]:Array GenState).size == 0,(boot_heap w.params).objs.size,(boot_heap w.params).nsMap mainGlobals "__annotations__")=(true,11,some (.ref 6)):=by kernel_rfl
theorem Tu (w:World) (os:OsState):(Ad9 w os).abs=⟨boot_heap w.params,#[],boot_drawn,boot_toks,os⟩:=by kernel_rfl
theorem Abh {p q:Program} {loose:List Str} {Xt:Shared -> Bool} {α:Type} {Yf:Shared -> α} {Ya:World -> α} {N M:Nat} {g0:Bool}
    (e:opening p=plainProg p.main.scope.names) (hN:Nat.ble 600 N=true) (f:∀ s,fenceModules? p s=some s) (le:Nat.ble M N=true)
    (run:∀ (w:World) (os:OsState),(Ob p w 11 (some (.ref 6)) M (Ad9 w os) (topStub p)).map (fun s=>(staticsOk (importedModules p.main.body) (boot_heap w.params) s.abs.heap && namesBound p s.abs.heap && gensDone s.abs && laidKept (boot_heap w.params) s.abs.heap,
      openSeen q loose (importedModules p.main.body) Xt g0 s.abs,Yf s.abs))=some (true,openGood q loose,Ya w)):LeftO p q loose Xt Yf Ya N g0:=fun w=>by
  refine ex1 (Option.map_eq_some_iff.mp (boot_open e hN f w)) fun zn0 zz=>Ac zz fun e1 e'=>?_;obtain ⟨h,gs,d,k,os⟩:=zn0
  obtain ⟨rfl,rfl,rfl,rfl⟩:h=boot_heap w.params /\ gs=#[] /\ d=boot_drawn /\ k=boot_toks:=by simpa using e'
  obtain ⟨z1,z2,z3⟩:_ /\ _ /\ _:=by simpa only [Prod.mk.injEq] using Tt w
  refine ex1 (Option.map_eq_some_iff.mp (run w os)) fun s zz=>Ac zz fun h1 h2=>?_
  obtain ⟨l1,l2,l3⟩:_ /\ _ /\ _:=by simpa only [Prod.mk.injEq] using h2
  rw [Kr] at h1
  have r:=Kq h1
  rw [Tu] at r
  replace r:=topRun_mono (N - M) _ _ _ _ r
  rw [show M+(N - M)=N by have:=Nat.le_of_ble_eq_true le;exact Ajs this] at r
  have t:topFrom treeTable p w N ⟨boot_heap w.params,#[],boot_drawn,boot_toks,os⟩=some s.abs:=by
    unfold topFrom
    dsimp only
    rw [z1,z2,z3,r]
    show (match staticsOk (importedModules p.main.body) (boot_heap w.params) s.abs.heap && namesBound p s.abs.heap && gensDone s.abs && laidKept (boot_heap w.params) s.abs.heap with | true=>_ | false=>_)=_
    rw [l1]
  unfold openEnds
  rw [e1]
  show (topFrom treeTable p w N _).map _=_
  rw [t]
  exact congrArg some (Prod.ext l2 l3)
end Mine.Internal
namespace Mine.Internal.Pure
open PySem
section
variable {α β:Type} {m:M α} {f:α -> M β} {H H':Hp} {a:α} {T:Tab} {Φ:Funs} {Γ:Env'}
theorem fcn {α:Type} {p:α -> Prop}:∀ x∈([]:List α),p x:=fun _ h=>nomatch h
theorem fc {α:Type} {p:α -> Prop} {a:α} {l:List α} (h:p a) (k:∀ x∈l,p x):∀ x∈a :: l,p x:=List.forall_mem_cons.mpr ⟨h,k⟩
theorem Yt (a:α) (H:Hp):M.ret a H=.ok a H:=rfl
theorem Db (f:Hp -> Option α) (H:Hp):M.look f H=(match f H with | some a=>.ok a H | none=>.bad):=rfl
theorem Lf (ns:List Int):bfV .len [.script ns]=M.ret (.int ns.length):=by
  funext H
  show (match (some (Val.int (ns.map Val.int).length):Option Val) with | some a=>Res.ok a H | none=>.bad)=_
  rw [List.length_map];rfl
theorem Q1 {l:Nat} {xs:List Val} {H:Hp} (h:H[l]?=some (.list xs)):bfV .len [.loc l] H=.ok (.int xs.length) H:=by
  have e:bfV .len [.loc l]=M.look (fun H=>(Cz (.loc l) H).map fun xs=>Val.int xs.length):=rfl
  rw [e,Db]
  rw [Vr h];rfl
theorem add_int (x y:Int):Ac1 .add (.int x) (.int y)=M.ret (.int (x+y)):=rfl
theorem sub_int (x y:Int):Ac1 .sub (.int x) (.int y)=M.ret (.int (x - y)):=rfl
theorem Q2 {ns:List Int} {k:Nat} {v:Int} (h:ns[k]?=some v):De (.script ns) (.int k)=M.ret (.int v):=by
  have lt:=(List.getElem?_eq_some_iff.mp h).1
  funext H
  have e:De (.script ns) (.int k)=M.look (fun _=>(C0 (k:Int) ns.length).bind fun p=>(ns[p]?).map Val.int):=rfl
  have:C0 (k:Int) ns.length=some k:=by
    unfold C0
    rw [if_pos (by exact Ni),if_pos (by exact Vg lt)];rfl
  rw [e,Db,this]
  simp only [Option.bind_some,h,Option.map_some,Yt]
theorem sub_tup {xs:List Val} {k:Nat} {v:Val} (h:xs[k]?=some v):De (.tup xs) (.int k)=M.ret v:=by
  funext H
  have e:De (.tup xs) (.int k)=M.look (fun _=>if 0 <= (k:Int) then xs[(k:Int).toNat]? else none):=rfl
  rw [e,Db]
  simp only [if_pos (show 0 <= (k:Int) by exact Ni),Int.toNat_natCast,h,Yt]
theorem Abi {d k:Nat} {g:MFun} {args:List Val} (h:T.funs[k]?=some g) (ha:args.length=g.arity) :
    Ai T (d+1) k args H=Zn (execSs T (Ai T d) g.body (args.map some++List.replicate g.nvars none) H):=by
  rw [Ai,h]
  show Ae2 T (Ai T d) g args H=_
  unfold Ae2
  rw [if_pos ha]
end
noncomputable def Wp {α:Type} (m:M α) (H:Hp) (Q:α -> Hp -> Prop) (E:Nat -> Hp -> Prop):Prop :=
  match m H with
  | .ok a H'=>Q a H'
  | .exc c H'=>E c H'
  | .bad=>False
noncomputable def WpS (r:ResS) (Q:Env' -> Hp -> Prop) (R:Val -> Hp -> Prop) (E:Nat -> Env' -> Hp -> Prop):Prop :=
  match r with
  | .next Γ H=>Q Γ H
  | .ret v H=>R v H
  | .exc c Γ H=>E c Γ H
  | .bad=>False
noncomputable def Pi:Env' -> Nat -> (Val -> Prop) -> Prop
  | [],_,_=>False
  | some v :: _,0,k=>k v
  | none :: _,0,_=>False
  | _ :: Γ,n+1,k=>Pi Γ n k
noncomputable def Eg:Val -> (Bool -> Prop) -> Prop
  | .bool b,k=>k b
  | _,_=>False
noncomputable def En {α:Type}:Option α -> (α -> Prop) -> Prop
  | some a,k=>k a
  | none,_=>False
noncomputable def brB:Bool -> Prop -> Prop -> Prop
  | true,a,_=>a
  | false,_,b=>b
noncomputable def NoE:Nat -> Hp -> Prop:=fun _ _=>False
noncomputable def NoX:Nat -> Env' -> Hp -> Prop:=fun _ _ _=>False
noncomputable def Lg (op:BOp) (a b:Val) (H:Hp) (Q:Val -> Hp -> Prop) (E:Nat -> Hp -> Prop):Prop :=
  match a,b with
  | .int x,.int y=>(match op with
    | .add=>Q (.int (x+y)) H
    | .sub=>Q (.int (x - y)) H
    | .mul=>(small x || small y)=true /\ Q (.int (x * y)) H
    | .fdiv=>¬ (y=0 \/ 1073741824 <= y.natAbs) /\ Q (.int (Int.fdiv x y)) H
    | .mod=>¬ (y=0) /\ Q (.int (Int.fmod x y)) H)
  | a,b=>Wp (Ac1 op a b) H Q E
mutual
noncomputable def wpE (T:Tab) (Φ:Funs):ME -> Env' -> Hp -> (Val -> Hp -> Prop) -> (Nat -> Hp -> Prop) -> Prop
  | .none,_,H,Q,_=>Q .none H
  | .bool b,_,H,Q,_=>Q (.bool b) H
  | .int i,_,H,Q,_=>Q (.int i) H
  | .str s,_,H,Q,_=>Q (.str s) H
  | .glob k,_,H,Q,_=>En T.globs[k]? fun v=>Q v H
  | .var i,Γ,H,Q,_=>Pi Γ i fun v=>Q v H
  | .bin op a b,Γ,H,Q,E=>wpE T Φ a Γ H (fun x H=>wpE T Φ b Γ H (fun y H=>Lg op x y H Q E) E) E
  | .neg a,Γ,H,Q,E=>Wp (Ak T Φ (.neg a) Γ) H Q E
  | .not a,Γ,H,Q,E=>wpE T Φ a Γ H (fun x H=>Eg x fun b=>Q (.bool (!b)) H) E
  | .and a b,Γ,H,Q,E=>wpE T Φ a Γ H (fun x H=>Eg x fun t=>brB t (wpE T Φ b Γ H Q E) (Q (.bool false) H)) E
  | .or a b,Γ,H,Q,E=>wpE T Φ a Γ H (fun x H=>Eg x fun t=>brB t (Q (.bool true) H) (wpE T Φ b Γ H Q E)) E
  | .cmp op a b,Γ,H,Q,E=>wpE T Φ a Γ H (fun x H=>wpE T Φ b Γ H (fun y H=>En (Dl op x y H) fun r=>Q (.bool r) H) E) E
  | .cmp2 op1 op2 a b c,Γ,H,Q,E=>wpE T Φ a Γ H (fun x H=>wpE T Φ b Γ H (fun y H=>En (Dl op1 x y H) fun r=>brB r (wpE T Φ c Γ H (fun z H=>En (Dl op2 y z H) fun r=>Q (.bool r) H) E) (Q (.bool false) H)) E) E
  | .sub a i,Γ,H,Q,E=>wpE T Φ a Γ H (fun x H=>wpE T Φ i Γ H (fun y H=>Wp (De x y) H Q E) E) E
  | .tup es,Γ,H,Q,E=>wpEs T Φ es Γ H (fun vs H=>Q (.tup vs) H) E
  | .list es,Γ,H,Q,E=>wpEs T Φ es Γ H (fun vs H=>Q (.loc H.length) (H++[.list vs])) E
  | .dict,_,H,Q,_=>Q (.loc H.length) (H++[.dict []])
  | .attr a n,Γ,H,Q,E=>wpE T Φ a Γ H (fun x H=>Wp (Iy x n) H Q E) E
  | .call f es,Γ,H,Q,E=>wpEs T Φ es Γ H (fun vs H=>Wp (Φ f vs) H Q E) E
  | .new c es,Γ,H,Q,E=>En (T.meth c 0) (fun _=>wpEs T Φ es Γ H (fun vs H=>Wp (P6 T Φ c vs) H Q E) E)
  | .umeth a m es,Γ,H,Q,E=>wpE T Φ a Γ H (fun o H=>Wp (C2 T o m) H (fun k H=>wpEs T Φ es Γ H (fun vs H=>Wp (Φ k (o :: vs)) H Q E) E) E) E
  | .bf f es,Γ,H,Q,E=>wpEs T Φ es Γ H (fun vs H=>Wp (bfV f vs) H Q E) E
  | .bm a m es,Γ,H,Q,E=>wpE T Φ a Γ H (fun o H=>En (Go m o H) fun _=>wpEs T Φ es Γ H (fun vs H=>Wp (bmV m o vs) H Q E) E) E
  | .isinst a t,Γ,H,Q,E=>wpE T Φ a Γ H (fun x H=>Wp (A6 T x t) H Q E) E
  | .comp elt it cond,Γ,H,Q,E=>Wp (Ak T Φ (.comp elt it cond) Γ) H Q E
noncomputable def wpO (T:Tab) (Φ:Funs):MEo -> Env' -> Hp -> (Val -> Hp -> Prop) -> (Nat -> Hp -> Prop) -> Prop
  | .none,_,H,Q,_=>Q .none H
  | .some e,Γ,H,Q,E=>wpE T Φ e Γ H Q E
noncomputable def wpEs (T:Tab) (Φ:Funs):MEs -> Env' -> Hp -> (List Val -> Hp -> Prop) -> (Nat -> Hp -> Prop) -> Prop
  | .nil,_,H,Q,_=>Q [] H
  | .cons e es,Γ,H,Q,E=>wpE T Φ e Γ H (fun v H=>wpEs T Φ es Γ H (fun vs H=>Q (v :: vs) H) E) E
end
mutual
noncomputable def wpS (T:Tab) (Φ:Funs):MS -> Env' -> Hp -> (Env' -> Hp -> Prop) -> (Val -> Hp -> Prop) -> (Nat -> Env' -> Hp -> Prop) -> Prop
  | .expr e,Γ,H,Q,_,E=>wpE T Φ e Γ H (fun _ H=>Q Γ H) fun c H=>E c Γ H
  | .assign i e,Γ,H,Q,_,E=>wpE T Φ e Γ H (fun v H=>Q (Γ.set i (some v)) H) fun c H=>E c Γ H
  | .setattr o n e,Γ,H,Q,_,E=>wpE T Φ e Γ H (fun v H=>wpE T Φ o Γ H (fun o H=>Wp (Bp o n v) H (fun _ H=>Q Γ H) fun c H=>E c Γ H) fun c H=>E c Γ H) fun c H=>E c Γ H
  | .setitem o i e,Γ,H,Q,_,E=>wpE T Φ e Γ H (fun v H=>wpE T Φ o Γ H (fun o H=>wpE T Φ i Γ H (fun i H=>Wp (A3 o i v) H (fun _ H=>Q Γ H) fun c H=>E c Γ H) fun c H=>E c Γ H) fun c H=>E c Γ H) fun c H=>E c Γ H
  | .ret e,Γ,H,_,R,E=>wpO T Φ e Γ H R fun c H=>E c Γ H
  | .ite c t f,Γ,H,Q,R,E=>wpE T Φ c Γ H (fun v H=>Eg v fun b=>brB b (wpSs T Φ t Γ H Q R E) (wpSs T Φ f Γ H Q R E)) fun c H=>E c Γ H
  | .raise c _,Γ,H,_,_,E=>T.isExc c=true /\ E c Γ H
  | .loop c b,Γ,H,Q,R,E=>WpS (Da T Φ (.loop c b) Γ H) Q R E
  | .each i a b,Γ,H,Q,R,E=>WpS (Da T Φ (.each i a b) Γ H) Q R E
  | .eachZip i j a b c,Γ,H,Q,R,E=>WpS (Da T Φ (.eachZip i j a b c) Γ H) Q R E
  | .tryx a b,Γ,H,Q,R,E=>WpS (Da T Φ (.tryx a b) Γ H) Q R E
noncomputable def wpSs (T:Tab) (Φ:Funs):MSs -> Env' -> Hp -> (Env' -> Hp -> Prop) -> (Val -> Hp -> Prop) -> (Nat -> Env' -> Hp -> Prop) -> Prop
  | .nil,Γ,H,Q,_,_=>Q Γ H
  | .cons s ss,Γ,H,Q,R,E=>wpS T Φ s Γ H (fun Γ H=>wpSs T Φ ss Γ H Q R E) R E
end
section
variable {α β:Type} {T:Tab} {Φ:Funs} {Γ:Env'} {H:Hp}
variable {Q:Val -> Hp -> Prop} {E:Nat -> Hp -> Prop} {QS:Env' -> Hp -> Prop} {R:Val -> Hp -> Prop} {ES:Nat -> Env' -> Hp -> Prop}
theorem Mw {Q:α -> Hp -> Prop} (a:α):Wp (M.ret a) H Q E=Q a H:=rfl
theorem Az {Q:β -> Hp -> Prop} (m:M α) (f:α -> M β):Wp (m.bnd f) H Q E=Wp m H (fun a H'=>Wp (f a) H' Q E) E:=by
  unfold Wp M.bnd
  cases m H <;> rfl
theorem W8 (o:HObj):Wp (M.alloc o) H Q E=Q (.loc H.length) (H++[o]):=rfl
theorem Wp.mono {Q Q':α -> Hp -> Prop} {E':Nat -> Hp -> Prop} {m:M α} (h:Wp m H Q E) (hq:∀ a H',Q a H' -> Q' a H') (he:∀ c H',E c H' -> E' c H'):Wp m H Q' E':=by
  unfold Wp at h ⊢
  cases hm:m H with
  | ok a H'=>rw [hm] at h;exact hq _ _ h
  | exc c H'=>rw [hm] at h;exact he _ _ h
  | bad=>rw [hm] at h;exact h
theorem Wp.then {Q Q':α -> Hp -> Prop} {m:M α} (h:Wp m H Q NoE) (hq:∀ a H',Q a H' -> Q' a H'):Wp m H Q' E :=
  h.mono hq (fun _ _ f=>f.elim)
theorem Wp.of_eq {Q:α -> Hp -> Prop} {m:M α} {a:α} {H':Hp} (h:m H=.ok a H') (q:Q a H'):Wp m H Q E:=by
  unfold Wp;rw [h];exact q
theorem Wp.get {Q:α -> Hp -> Prop} {m:M α} (h:Wp m H Q NoE):∃ a H',m H=.ok a H' /\ Q a H':=by
  unfold Wp at h
  cases hm:m H with
  | ok a H'=>rw [hm] at h;exact ⟨a,H',rfl,h⟩
  | exc c H'=>rw [hm] at h;exact h.elim
  | bad=>rw [hm] at h;exact h.elim
theorem WpS.mono {r:ResS} {Q':Env' -> Hp -> Prop} {R':Val -> Hp -> Prop} {E':Nat -> Env' -> Hp -> Prop} (h:WpS r QS R ES) (hq:∀ Γ H',QS Γ H' -> Q' Γ H') (hr:∀ v H',R v H' -> R' v H') (he:∀ c Γ H',ES c Γ H' -> E' c Γ H'):WpS r Q' R' E':=by
  cases r with
  | next Γ H=>exact hq _ _ h
  | ret v H=>exact hr _ _ h
  | exc c Γ H=>exact he _ _ _ h
  | bad=>exact h
theorem Cj (m:M α) (Γ:Env') (f:α -> Hp -> ResS):WpS (Gl m Γ f H) QS R ES=Wp m H (fun a H'=>WpS (f a H') QS R ES) (fun c H'=>ES c Γ H'):=by
  unfold Wp Gl
  cases m H <;> rfl
theorem Pj (r:ResS) (f:Env' -> Hp -> ResS):WpS (L7 r f) QS R ES=WpS r (fun Γ H=>WpS (f Γ H) QS R ES) R ES:=by
  cases r <;> rfl
theorem Yu {Q:α -> Hp -> Prop} (o:Option α):Wp (M.ofOpt o) H Q E=En o (fun v=>Q v H):=by cases o <;> rfl
theorem Gy {Q:α -> Hp -> Prop} (f:Hp -> Option α):Wp (M.look f) H Q E=En (f H) (fun v=>Q v H):=by
  unfold Wp M.look
  cases f H <;> rfl
theorem Eh:∀ (Γ:Env') (i:Nat) (k:Val -> Prop),Pi Γ i k=En (match Γ[i]? with | some (some v)=>some v | _=>none) k
  | [],i,k=>by cases i <;> rfl
  | some v :: Γ,0,k=>rfl
  | none :: Γ,0,k=>rfl
  | o :: Γ,i+1,k=>by
    have:Pi (o :: Γ) (i+1) k=Pi Γ i k:=by cases o <;> rfl
    rw [this,Eh Γ i k,List.getElem?_cons_succ]
theorem Aj (v:Val) (Γ:Env') (k:Val -> Prop):Pi (some v :: Γ) 0 k=k v:=rfl
theorem Aq (o:Option Val) (Γ:Env') (n:Nat) (k:Val -> Prop):Pi (o :: Γ) (n+1) k=Pi Γ n k:=by cases o <;> rfl
theorem Dj (v:Val) (Γ:Env') (n:Nat) (k:Val -> Prop):Pi (some v :: Γ) (n+1) k=Pi Γ n k:=rfl
theorem Tv (Γ:Env') (n:Nat) (k:Val -> Prop):Pi (none :: Γ) (n+1) k=Pi Γ n k:=rfl
theorem Ad (b:Bool) (k:Bool -> Prop):Eg (.bool b) k=k b:=rfl
theorem Ck {α:Type} (a:α) (k:α -> Prop):En (some a) k=k a:=rfl
theorem Bj {α:Type} {o:Option α} {a:α} (h:o=some a) (k:α -> Prop):En o k=k a:=by rw [h];rfl
theorem Ce (A B:Prop):brB true A B=A:=rfl
theorem C4 (A B:Prop):brB false A B=B:=rfl
theorem E8 (b:Bool) (A B:Prop):brB (!b) A B=brB b B A:=by cases b <;> rfl
theorem Cd {p:Prop} [Decidable p] (h:p) (A B:Prop):brB (decide p) A B=A:=by rw [decide_eq_true h];rfl
theorem Bn {p:Prop} [Decidable p] (h:¬ p) (A B:Prop):brB (decide p) A B=B:=by rw [decide_eq_false h];rfl
theorem Fz {p:Prop} [Decidable p] {A B:Prop} (h1:p -> A) (h2:¬ p -> B):brB (decide p) A B:=by
  by_cases h:p
  · rw [Cd h];exact h1 h
  · rw [Bn h];exact h2 h
theorem B8 {b:Bool} {A B:Prop} (h1:b=true -> A) (h2:b=false -> B):brB b A B:=by
  cases b
  · exact h2 rfl
  · exact h1 rfl
theorem Hm {Q:Bool -> Hp -> Prop} (v:Val):Wp (C1 v) H Q E=Eg v (fun b=>Q b H):=by cases v <;> rfl
theorem Jt (x:Val) (A B:Prop) (f:Bool -> Prop) (h1:f true=A) (h2:f false=B):Eg x f=Eg x (fun t=>brB t A B):=by
  cases x with
  | bool b=>cases b;exact h2;exact h1
  | _=>rfl
theorem Abj (x:Option Bool) (A B:Prop) (f:Bool -> Prop) (h1:f true=A) (h2:f false=B):En x f=En x (fun t=>brB t A B):=by
  cases x with
  | some b=>cases b;exact h2;exact h1
  | _=>rfl
theorem Yv {Q:α -> Hp -> Prop} (p:Prop) [Decidable p] (m:M α):Wp (if p then m else M.bad) H Q E=(p /\ Wp m H Q E):=by
  by_cases h:p
  · rw [if_pos h];simp [h]
  · rw [if_neg h];simp [h];exact fun h=>h
theorem Tw {Q:α -> Hp -> Prop} (p:Prop) [Decidable p] (m:M α):Wp (if p then M.bad else m) H Q E=(¬ p /\ Wp m H Q E):=by
  by_cases h:p
  · rw [if_pos h];simp [h];exact fun h=>h
  · rw [if_neg h];simp [h]
theorem W9 (op:BOp) (a b:Val):Wp (Ac1 op a b) H Q E=Lg op a b H Q E:=by
  unfold Lg
  split
  · cases op with
    | add=>rfl
    | sub=>rfl
    | mul=>exact Yv _ _
    | fdiv=>exact Tw _ _
    | mod=>exact Tw _ _
  · rfl
theorem Dc:wpE T Φ .none Γ H Q E=Q .none H:=rfl
theorem F5 (b:Bool):wpE T Φ (.bool b) Γ H Q E=Q (.bool b) H:=rfl
theorem A8 (i:Int):wpE T Φ (.int i) Γ H Q E=Q (.int i) H:=rfl
theorem Pk (s:Str):wpE T Φ (.str s) Γ H Q E=Q (.str s) H:=rfl
theorem wp_glob (k:Nat):wpE T Φ (.glob k) Γ H Q E=En T.globs[k]? (fun v=>Q v H):=rfl
theorem A0 (i:Nat):wpE T Φ (.var i) Γ H Q E=Pi Γ i (fun v=>Q v H):=rfl
theorem Cf (op:BOp) (a b:ME):wpE T Φ (.bin op a b) Γ H Q E=wpE T Φ a Γ H (fun x H=>wpE T Φ b Γ H (fun y H=>Lg op x y H Q E) E) E:=rfl
theorem C8 (a:ME):wpE T Φ (.not a) Γ H Q E=wpE T Φ a Γ H (fun x H=>Eg x fun b=>Q (.bool (!b)) H) E:=rfl
theorem Ei (a b:ME):wpE T Φ (.and a b) Γ H Q E=wpE T Φ a Γ H (fun x H=>Eg x fun t=>brB t (wpE T Φ b Γ H Q E) (Q (.bool false) H)) E:=rfl
theorem Eo (a b:ME):wpE T Φ (.or a b) Γ H Q E=wpE T Φ a Γ H (fun x H=>Eg x fun t=>brB t (Q (.bool true) H) (wpE T Φ b Γ H Q E)) E:=rfl
theorem A2 (op:COp) (a b:ME):wpE T Φ (.cmp op a b) Γ H Q E=wpE T Φ a Γ H (fun x H=>wpE T Φ b Γ H (fun y H=>En (Dl op x y H) fun r=>Q (.bool r) H) E) E:=rfl
theorem H7 (op1 op2:COp) (a b c:ME):wpE T Φ (.cmp2 op1 op2 a b c) Γ H Q E=wpE T Φ a Γ H (fun x H=>wpE T Φ b Γ H (fun y H=>En (Dl op1 x y H) fun r=>brB r (wpE T Φ c Γ H (fun z H=>En (Dl op2 y z H) fun r=>Q (.bool r) H) E) (Q (.bool false) H)) E) E:=rfl
theorem A9 (a i:ME):wpE T Φ (.sub a i) Γ H Q E=wpE T Φ a Γ H (fun x H=>wpE T Φ i Γ H (fun y H=>Wp (De x y) H Q E) E) E:=rfl
theorem Lh:wpO T Φ .none Γ H Q E=Q .none H:=rfl
theorem Bd (e:ME):wpO T Φ (.some e) Γ H Q E=wpE T Φ e Γ H Q E:=rfl
theorem Dw (es:MEs):wpE T Φ (.tup es) Γ H Q E=wpEs T Φ es Γ H (fun vs H=>Q (.tup vs) H) E:=rfl
theorem E9 (es:MEs):wpE T Φ (.list es) Γ H Q E=wpEs T Φ es Γ H (fun vs H=>Q (.loc H.length) (H++[.list vs])) E:=rfl
theorem H8:wpE T Φ .dict Γ H Q E=Q (.loc H.length) (H++[.dict []]):=rfl
theorem Dp (a:ME) (n:Nat):wpE T Φ (.attr a n) Γ H Q E=wpE T Φ a Γ H (fun x H=>Wp (Iy x n) H Q E) E:=rfl
theorem A1 (f:Nat) (es:MEs):wpE T Φ (.call f es) Γ H Q E=wpEs T Φ es Γ H (fun vs H=>Wp (Φ f vs) H Q E) E:=rfl
theorem Pl (c:Nat) (es:MEs):wpE T Φ (.new c es) Γ H Q E=En (T.meth c 0) (fun _=>wpEs T Φ es Γ H (fun vs H=>Wp (P6 T Φ c vs) H Q E) E):=rfl
theorem B0 (a:ME) (m:Nat) (es:MEs):wpE T Φ (.umeth a m es) Γ H Q E=wpE T Φ a Γ H (fun o H=>Wp (C2 T o m) H (fun k H=>wpEs T Φ es Γ H (fun vs H=>Wp (Φ k (o :: vs)) H Q E) E) E) E:=rfl
theorem Dq (f:BF) (es:MEs):wpE T Φ (.bf f es) Γ H Q E=wpEs T Φ es Γ H (fun vs H=>Wp (bfV f vs) H Q E) E:=rfl
theorem Q3 (a:ME) (m:BM) (es:MEs):wpE T Φ (.bm a m es) Γ H Q E=wpE T Φ a Γ H (fun o H=>En (Go m o H) fun _=>wpEs T Φ es Γ H (fun vs H=>Wp (bmV m o vs) H Q E) E) E:=rfl
theorem Cl (a:ME) (t:Ty):wpE T Φ (.isinst a t) Γ H Q E=wpE T Φ a Γ H (fun x H=>Wp (A6 T x t) H Q E) E:=rfl
theorem Ax {Q:List Val -> Hp -> Prop}:wpEs T Φ .nil Γ H Q E=Q [] H:=rfl
theorem Ah {Q:List Val -> Hp -> Prop} (e:ME) (es:MEs):wpEs T Φ (.cons e es) Γ H Q E=wpE T Φ e Γ H (fun v H=>wpEs T Φ es Γ H (fun vs H=>Q (v :: vs) H) E) E:=rfl
theorem B1:wpSs T Φ .nil Γ H QS R ES=QS Γ H:=rfl
theorem Ag (s:MS) (ss:MSs):wpSs T Φ (.cons s ss) Γ H QS R ES=wpS T Φ s Γ H (fun Γ H=>wpSs T Φ ss Γ H QS R ES) R ES:=rfl
theorem Hn (e:ME):wpS T Φ (.expr e) Γ H QS R ES=wpE T Φ e Γ H (fun _ H=>QS Γ H) (fun c H=>ES c Γ H):=rfl
theorem Bu (i:Nat) (e:ME):wpS T Φ (.assign i e) Γ H QS R ES=wpE T Φ e Γ H (fun v H=>QS (Γ.set i (some v)) H) (fun c H=>ES c Γ H):=rfl
theorem Bv (e:MEo):wpS T Φ (.ret e) Γ H QS R ES=wpO T Φ e Γ H R (fun c H=>ES c Γ H):=rfl
theorem Bb (c:ME) (t f:MSs):wpS T Φ (.ite c t f) Γ H QS R ES=wpE T Φ c Γ H (fun v H=>Eg v fun b=>brB b (wpSs T Φ t Γ H QS R ES) (wpSs T Φ f Γ H QS R ES)) (fun c H=>ES c Γ H):=rfl
theorem Fa (o:ME) (n:Nat) (e:ME):wpS T Φ (.setattr o n e) Γ H QS R ES=wpE T Φ e Γ H (fun v H=>wpE T Φ o Γ H (fun o H=>Wp (Bp o n v) H (fun _ H=>QS Γ H) (fun c H=>ES c Γ H)) (fun c H=>ES c Γ H)) (fun c H=>ES c Γ H):=rfl
theorem Bk (o i e:ME):wpS T Φ (.setitem o i e) Γ H QS R ES=wpE T Φ e Γ H (fun v H=>wpE T Φ o Γ H (fun o H=>wpE T Φ i Γ H (fun i H=>Wp (A3 o i v) H (fun _ H=>QS Γ H) (fun c H=>ES c Γ H)) (fun c H=>ES c Γ H)) (fun c H=>ES c Γ H)) (fun c H=>ES c Γ H):=rfl
theorem Ju (c:Nat) (m:Str):wpS T Φ (.raise c m) Γ H QS R ES=(T.isExc c=true /\ ES c Γ H):=rfl
theorem Aea (T:Tab) (c:Nat) (Γ:Env') (H:Hp) (Q:Env' -> Hp -> Prop) (R:Val -> Hp -> Prop) (E:Nat -> Env' -> Hp -> Prop):WpS (if T.isExc c=true then .exc c Γ H else .bad) Q R E=(T.isExc c=true /\ E c Γ H):=by
  by_cases h:T.isExc c=true
  · rw [if_pos h];simp [h];rfl
  · rw [if_neg h];simp [h];exact fun x=>x
theorem Cu {e:ME} {Q Q':Val -> Hp -> Prop} (h:∀ v H,Q v H=Q' v H):wpE T Φ e Γ H Q E=wpE T Φ e Γ H Q' E:=congrArg (fun q=>wpE T Φ e Γ H q E) (funext fun v=>funext fun H=>h v H)
theorem Agi {m:M α} {Q Q':α -> Hp -> Prop} (h:∀ v H,Q v H=Q' v H):Wp m H Q E=Wp m H Q' E:=congrArg (fun q=>Wp m H q E) (funext fun v=>funext fun H=>h v H)
theorem Abk {o:Option α} {Q Q':α -> Prop} (h:∀ v,Q v=Q' v):En o Q=En o Q':=congrArg (En o) (funext h)
theorem Aeb {e:MS} {Q Q':Env' -> Hp -> Prop} (h:∀ v H,Q v H=Q' v H):wpS T Φ e Γ H Q R ES=wpS T Φ e Γ H Q' R ES:=congrArg (fun q=>wpS T Φ e Γ H q R ES) (funext fun v=>funext fun H=>h v H)
end
mutual
theorem Bc (T:Tab) (Φ:Funs):∀ (e:ME) (Γ:Env') (H:Hp) (Q:Val -> Hp -> Prop) (E:Nat -> Hp -> Prop),Wp (Ak T Φ e Γ) H Q E=wpE T Φ e Γ H Q E
  | .none,_,_,_,_=>rfl
  | .bool _,_,_,_,_=>rfl
  | .int _,_,_,_,_=>rfl
  | .str _,_,_,_,_=>rfl
  | .glob k,_,H,Q,E=>Yu _
  | .var i,Γ,H,Q,E=>(Yu _).trans (Eh Γ i fun v=>Q v H).symm
  | .bin op a b,Γ,H,Q,E=>(Az _ _).trans ((Bc T Φ a Γ H _ E).trans ((Cu fun x H=>(Az _ _).trans ((Bc T Φ b Γ H _ E).trans (Cu fun y H=>W9 op x y))).trans (Cf op a b).symm))
  | .neg _,_,_,_,_=>rfl
  | .not a,Γ,H,Q,E=>(Az _ _).trans ((Bc T Φ a Γ H _ E).trans ((Cu fun x H=>(Az _ _).trans (Hm x)).trans (C8 a).symm))
  | .and a b,Γ,H,Q,E=>(Az _ _).trans ((Bc T Φ a Γ H _ E).trans ((Cu fun x H=>(Az _ _).trans ((Hm x).trans (Jt _ _ _ _ (Bc T Φ b Γ H Q E) rfl))).trans (Ei a b).symm))
  | .or a b,Γ,H,Q,E=>(Az _ _).trans ((Bc T Φ a Γ H _ E).trans ((Cu fun x H=>(Az _ _).trans ((Hm x).trans (Jt _ _ _ _ rfl (Bc T Φ b Γ H Q E)))).trans (Eo a b).symm))
  | .cmp op a b,Γ,H,Q,E=>(Az _ _).trans ((Bc T Φ a Γ H _ E).trans ((Cu fun x H=>(Az _ _).trans ((Bc T Φ b Γ H _ E).trans (Cu fun y H=>(Az _ _).trans (Gy _)))).trans (A2 op a b).symm))
  | .cmp2 op1 op2 a b c,Γ,H,Q,E=>(Az _ _).trans ((Bc T Φ a Γ H _ E).trans ((Cu fun x H=>(Az _ _).trans ((Bc T Φ b Γ H _ E).trans (Cu fun y H=>(Az _ _).trans ((Gy _).trans (Abj _ _ _ _ ((Az _ _).trans ((Bc T Φ c Γ H _ E).trans (Cu fun z H=>(Az _ _).trans (Gy _)))) rfl))))).trans (H7 op1 op2 a b c).symm))
  | .sub a i,Γ,H,Q,E=>(Az _ _).trans ((Bc T Φ a Γ H _ E).trans ((Cu fun x H=>(Az _ _).trans (Bc T Φ i Γ H _ E)).trans (A9 a i).symm))
  | .tup es,Γ,H,Q,E=>(Az _ _).trans ((wpEs_eq T Φ es Γ H _ E).trans rfl)
  | .list es,Γ,H,Q,E=>(Az _ _).trans ((wpEs_eq T Φ es Γ H _ E).trans rfl)
  | .dict,_,_,_,_=>rfl
  | .attr a n,Γ,H,Q,E=>(Az _ _).trans (Bc T Φ a Γ H _ E)
  | .call f es,Γ,H,Q,E=>(Az _ _).trans (wpEs_eq T Φ es Γ H _ E)
  | .new c es,Γ,H,Q,E=>by
    have h:Ak T Φ (.new c es) Γ=(match T.meth c 0 with
      | some _=>(evalEs T Φ es Γ).bnd fun vs=>P6 T Φ c vs
      | none=>M.bad):=rfl
    rw [h]
    show _=En (T.meth c 0) _
    cases T.meth c 0 with
    | none=>rfl
    | some k=>exact (Az _ _).trans (wpEs_eq T Φ es Γ H _ E)
  | .umeth a m es,Γ,H,Q,E=>(Az _ _).trans ((Bc T Φ a Γ H _ E).trans ((Cu fun o H=>(Az _ _).trans (Agi fun k H=>(Az _ _).trans (wpEs_eq T Φ es Γ H _ E))).trans (B0 a m es).symm))
  | .bf f es,Γ,H,Q,E=>(Az _ _).trans (wpEs_eq T Φ es Γ H _ E)
  | .bm a m es,Γ,H,Q,E=>(Az _ _).trans ((Bc T Φ a Γ H _ E).trans ((Cu fun o H=>(Az _ _).trans ((Gy _).trans (Abk fun _=>(Az _ _).trans (wpEs_eq T Φ es Γ H _ E)))).trans (Q3 a m es).symm))
  | .isinst a t,Γ,H,Q,E=>(Az _ _).trans (Bc T Φ a Γ H _ E)
  | .comp _ _ _,_,_,_,_=>rfl
theorem Aec (T:Tab) (Φ:Funs):∀ (e:MEo) (Γ:Env') (H:Hp) (Q:Val -> Hp -> Prop) (E:Nat -> Hp -> Prop),Wp (Zl T Φ e Γ) H Q E=wpO T Φ e Γ H Q E
  | .none,_,_,_,_=>rfl
  | .some e,Γ,H,Q,E=>Bc T Φ e Γ H Q E
theorem wpEs_eq (T:Tab) (Φ:Funs):∀ (es:MEs) (Γ:Env') (H:Hp) (Q:List Val -> Hp -> Prop) (E:Nat -> Hp -> Prop),Wp (evalEs T Φ es Γ) H Q E=wpEs T Φ es Γ H Q E
  | .nil,_,_,_,_=>rfl
  | .cons e es,Γ,H,Q,E=>(Az _ _).trans ((Bc T Φ e Γ H _ E).trans ((Cu fun v H=>(Az _ _).trans (wpEs_eq T Φ es Γ H _ E)).trans (Ah e es).symm))
end
mutual
theorem Yw (T:Tab) (Φ:Funs):∀ (s:MS) (Γ:Env') (H:Hp) (Q:Env' -> Hp -> Prop) (R:Val -> Hp -> Prop) (E:Nat -> Env' -> Hp -> Prop),WpS (Da T Φ s Γ H) Q R E=wpS T Φ s Γ H Q R E
  | .expr e,Γ,H,Q,R,E=>(Cj _ _ _).trans (Bc T Φ e Γ H _ _)
  | .assign i e,Γ,H,Q,R,E=>(Cj _ _ _).trans (Bc T Φ e Γ H _ _)
  | .setattr o n e,Γ,H,Q,R,E=>(Cj _ _ _).trans ((Bc T Φ e Γ H _ _).trans ((Cu fun v H=>(Cj _ _ _).trans ((Bc T Φ o Γ H _ _).trans (Cu fun o H=>Cj _ _ _))).trans (Fa o n e).symm))
  | .setitem o i e,Γ,H,Q,R,E=>(Cj _ _ _).trans ((Bc T Φ e Γ H _ _).trans ((Cu fun v H=>(Cj _ _ _).trans ((Bc T Φ o Γ H _ _).trans (Cu fun o H=>(Cj _ _ _).trans ((Bc T Φ i Γ H _ _).trans (Cu fun i H=>Cj _ _ _))))).trans (Bk o i e).symm))
  | .ret e,Γ,H,Q,R,E=>(Cj _ _ _).trans (Aec T Φ e Γ H _ _)
  | .ite c t f,Γ,H,Q,R,E=>(Cj _ _ _).trans ((Az _ _).trans ((Bc T Φ c Γ H _ _).trans ((Cu fun x H=>(Hm x).trans (Jt _ _ _ _ (wpSs_eq T Φ t Γ H Q R E) (wpSs_eq T Φ f Γ H Q R E))).trans (Bb c t f).symm)))
  | .raise c m,Γ,H,Q,R,E=>Aea T c Γ H Q R E
  | .loop _ _,_,_,_,_,_=>rfl
  | .each _ _ _,_,_,_,_,_=>rfl
  | .eachZip _ _ _ _ _,_,_,_,_,_=>rfl
  | .tryx _ _,_,_,_,_,_=>rfl
theorem wpSs_eq (T:Tab) (Φ:Funs):∀ (ss:MSs) (Γ:Env') (H:Hp) (Q:Env' -> Hp -> Prop) (R:Val -> Hp -> Prop) (E:Nat -> Env' -> Hp -> Prop),WpS (execSs T Φ ss Γ H) Q R E=wpSs T Φ ss Γ H Q R E
  | .nil,_,_,_,_,_=>rfl
  | .cons s ss,Γ,H,Q,R,E=>(Pj _ _).trans ((Yw T Φ s Γ H _ R E).trans ((Aeb fun Γ H=>wpSs_eq T Φ ss Γ H Q R E).trans (Ag s ss).symm))
end
section
variable {α β:Type} {T:Tab} {Φ:Funs} {Γ:Env'} {H:Hp}
variable {Q:Val -> Hp -> Prop} {E:Nat -> Hp -> Prop} {QS:Env' -> Hp -> Prop} {R:Val -> Hp -> Prop} {ES:Nat -> Env' -> Hp -> Prop}
theorem Pm {e:ME} {Q':Val -> Hp -> Prop} {E':Nat -> Hp -> Prop} (h:wpE T Φ e Γ H Q E) (hq:∀ a H',Q a H' -> Q' a H') (he:∀ c H',E c H' -> E' c H'):wpE T Φ e Γ H Q' E':=by
  rw [<- Bc] at h ⊢;exact h.mono hq he
theorem A4 {e:ME} {Q':Val -> Hp -> Prop} (h:wpE T Φ e Γ H Q NoE) (hq:∀ a H',Q a H' -> Q' a H'):wpE T Φ e Γ H Q' E:=Pm h hq fun _ _ f=>f.elim
theorem Xa {s:MS} {Q':Env' -> Hp -> Prop} {R':Val -> Hp -> Prop} {E':Nat -> Env' -> Hp -> Prop} (h:wpS T Φ s Γ H QS R ES) (hq:∀ Γ H',QS Γ H' -> Q' Γ H') (hr:∀ v H',R v H' -> R' v H') (he:∀ c Γ H',ES c Γ H' -> E' c Γ H'):wpS T Φ s Γ H Q' R' E':=by
  rw [<- Yw] at h ⊢;exact h.mono hq hr he
theorem Tx {s:MSs} {Q':Env' -> Hp -> Prop} {R':Val -> Hp -> Prop} {E':Nat -> Env' -> Hp -> Prop} (h:wpSs T Φ s Γ H QS R ES) (hq:∀ Γ H',QS Γ H' -> Q' Γ H') (hr:∀ v H',R v H' -> R' v H') (he:∀ c Γ H',ES c Γ H' -> E' c Γ H'):wpSs T Φ s Γ H Q' R' E':=by
  rw [<- wpSs_eq] at h ⊢;exact h.mono hq hr he
theorem As {d k:Nat} {g:MFun} {args:List Val} (h:T.funs[k]?=some g) (ha:args.length=g.arity) :
    Wp (Ai T (d+1) k args) H Q E=wpSs T (Ai T d) g.body (args.map some++List.replicate g.nvars none) H (fun _ H'=>Q .none H') Q (fun c _ H'=>E c H'):=by
  rw [<- wpSs_eq]
  unfold Wp
  rw [Abi h ha]
  cases execSs T (Ai T d) g.body (args.map some++List.replicate g.nvars none) H <;> rfl
theorem Abl {body:MSs} {hs:MHs} (h:wpSs T Φ body Γ H QS R (fun c Γ H=>WpS (execH T Φ hs c Γ H) QS R ES)):wpS T Φ (.tryx body hs) Γ H QS R ES:=by
  rw [<- wpSs_eq] at h
  show WpS (match execSs T Φ body Γ H with
    | .exc c Γ' H'=>execH T Φ hs c Γ' H'
    | r=>r) QS R ES
  generalize execSs T Φ body Γ H=r at h
  cases r <;> exact h
theorem C5 {i:Nat} {it:ME} {body:MSs} (h:wpE T Φ it Γ H (fun v H=>En (Cy v H) fun p=>WpS (E4 (chk p.2 p.1) (Nm i) (execSs T Φ body) p.1 Γ H) QS R ES) (fun c H=>ES c Γ H)):wpS T Φ (.each i it body) Γ H QS R ES:=by
  rw [<- Bc] at h
  refine ((Cj _ _ _).trans ?_).mpr h
  simp only [Cj,Gy]
theorem Oc {i j:Nat} {a b:ME} {body:MSs} (h:wpE T Φ a Γ H (fun v H=>wpE T Φ b Γ H (fun w H=>En (L9 v w H) fun p=>p.1.1.length=p.2.1.length /\
    WpS (E4 (fun H'=>chk p.1.2 p.1.1 H' && chk p.2.2 p.2.1 H' && Ma H.length H') (Zm i j) (execSs T Φ body) (Du p.1.1 p.2.1) Γ (H++[.hid])) QS R ES) (fun c H=>ES c Γ H)) (fun c H=>ES c Γ H)):wpS T Φ (.eachZip i j a b body) Γ H QS R ES:=by
  simp only [<- Bc] at h
  refine (Cj _ _ _).mpr (h.mono (fun v H h=>(Cj _ _ _).mpr (h.mono (fun w H h=>?_) fun _ _ h=>h)) fun _ _ h=>h)
  · rw [Cj,Gy]
    cases hp:L9 v w H with
    | none=>rw [hp] at h;exact h
    | some p =>
      rw [hp] at h
      obtain ⟨e,h⟩:=h
      show WpS (if _ then _ else _) _ _ _
      rw [if_pos e];exact h
theorem Mx {chk:Hp -> Bool} {bind:Val -> Env' -> Option Env'} {body:MSs} (I:List Val -> Env' -> Hp -> Prop) :
    ∀ (xs:List Val) (Γ:Env') (H:Hp),I xs Γ H -> (∀ Γ H,I [] Γ H -> QS Γ H) -> (∀ ys Γ H,I ys Γ H -> chk H=true) ->
    (∀ x ys Γ H,I (x :: ys) Γ H -> ∃ Γ',bind x Γ=some Γ' /\ wpSs T Φ body Γ' H (I ys) R ES) -> WpS (E4 chk bind (execSs T Φ body) xs Γ H) QS R ES
  | [],Γ,H,h,hd,hc,_=>by
    rw [L8,if_pos (hc _ _ _ h)];exact hd _ _ h
  | x :: xs,Γ,H,h,hd,hc,hs=>by
    rw [Ka,if_pos (hc _ _ _ h)]
    refine ex1 (hs _ _ _ _ h) fun Γ' zz=>Ac zz fun e w=>?_
    rw [e]
    rw [<- wpSs_eq] at w
    rw [Pj]
    exact w.mono (fun Γ H h=>Mx I xs Γ H h hd hc hs) (fun _ _ h=>h) (fun _ _ _ h=>h)
theorem B9 {chk:Hp -> Bool} {bind:Val -> Env' -> Option Env'} {body:MSs} {xs:List Val} (I:Nat -> Env' -> Hp -> Prop)
    (h0:I 0 Γ H) (hd:∀ Γ H,I xs.length Γ H -> QS Γ H) (hc:∀ k Γ H,k <= xs.length -> I k Γ H -> chk H=true)
    (hs:∀ k x Γ H,xs[k]?=some x -> I k Γ H -> ∃ Γ',bind x Γ=some Γ' /\ wpSs T Φ body Γ' H (I (k+1)) R ES):WpS (E4 chk bind (execSs T Φ body) xs Γ H) QS R ES:=by
  refine Mx (fun ys Γ H=>∃ k,ys=xs.drop k /\ k <= xs.length /\ I k Γ H) xs Γ H ⟨0,rfl,Nat.zero_le _,h0⟩ ?_ ?_ ?_
  · intro Γ H zz
    refine ex1 zz fun k zz=>An zz fun e l h=>?_
    have:k=xs.length:=by
      have:=congrArg List.length e
      simp at this;exact Agz this l
    subst this;exact hd _ _ h
  · intro ys Γ H zz
    refine ex1 zz fun k zz=>An zz fun e l h=>?_
    exact hc k Γ H l h
  · intro x ys Γ H zz
    refine ex1 zz fun k zz=>An zz fun e l h=>?_
    have hx:xs[k]?=some x:=by
      have:=congrArg (fun z=>z[0]?) e
      simpa using this.symm
    have lt:=(List.getElem?_eq_some_iff.mp hx).1
    refine ex1 (hs k x Γ H hx h) fun Γ' zz=>Ac zz fun hb w=>?_
    refine ⟨Γ',hb,Tx w ?_ (fun _ _ h=>h) (fun _ _ _ h=>h)⟩
    intro Γ H h
    refine ⟨k+1,?_,lt,h⟩
    have:=congrArg List.tail e
    simpa using this
theorem Po {chk:Hp -> Bool} {step:Val -> M (Option Val)} {Q:List Val -> Hp -> Prop} (I:List Val -> List Val -> Hp -> Prop) :
    ∀ (xs:List Val) (out:List Val) (H:Hp),I xs out H -> (∀ ys out H,I ys out H -> chk H=true) ->
    (∀ x ys out H,I (x :: ys) out H -> Wp (step x) H (fun r H=>I ys (out++r.toList) H) E) ->
    (∀ zs H,I [] (out++zs) H -> Q zs H) -> Wp (E3 chk step xs) H Q E
  | [],out,H,h,hc,_,hd=>by
    have:E3 chk step [] H=.ok [] H:=by
      exact if_pos (hc _ _ _ h)
    exact Wp.of_eq this (hd [] H (by simpa using h))
  | x :: xs,out,H,h,hc,hs,hd=>by
    have:E3 chk step (x :: xs) H=((step x).bnd fun r=>(E3 chk step xs).bnd fun ys=>.ret (match r with | some y=>y :: ys | none=>ys)) H:=by
      exact if_pos (hc _ _ _ h)
    unfold Wp;rw [this]
    show Wp _ H Q E
    rw [Az]
    refine (hs _ _ _ _ h).mono ?_ (fun _ _ h=>h)
    intro r H h
    rw [Az]
    simp only [Mw]
    refine Po I xs _ H h hc hs ?_
    intro zs H h
    refine hd _ H ?_
    cases r with
    | none=>simpa using h
    | some y=>simpa using h
theorem Xb {Q:α -> Hp -> Prop} {m:M α} (h:Wp m H Q NoE):Wp (M.quiet m) H Q E:=by
  unfold Wp at h ⊢
  unfold M.quiet
  cases hm:m H with
  | ok a H'=>rw [hm] at h;exact h
  | exc c H'=>rw [hm] at h;exact h.elim
  | bad=>rw [hm] at h;exact h.elim
theorem Li {elt it:ME} {cond:MEo} (h:wpE T Φ it Γ H (fun v H=>En (Cy v H) fun p =>
    Wp (E3 (chk p.2 p.1) (fun x=>(evalC T Φ cond (Γ++[some x])).bnd fun b=>match b with
        | true=>(Ak T Φ elt (Γ++[some x])).bnd fun y=>.ret (some y)
        | false=>.ret none) p.1) H (fun ys H=>ys.length < lid /\ Q (.loc H.length) (H++[.list ys])) NoE) E):wpE T Φ (.comp elt it cond) Γ H Q E:=by
  rw [<- Bc] at h ⊢
  refine (Az _ _).mpr (h.mono ?_ (fun _ _ h=>h))
  intro v H h
  rw [Az,Gy]
  cases hp:Cy v H with
  | none=>rw [hp] at h;exact h
  | some p =>
  rw [hp] at h
  show Wp _ _ _ _
  rw [Az]
  refine Xb (Wp.mono h ?_ (fun _ _ h=>h))
  rintro ys H ⟨hl,q⟩
  rw [if_pos hl];exact q
theorem Pp {elt:ME} {Q:Option Val -> Hp -> Prop} (h:wpE T Φ elt Γ H (fun y H=>Q (some y) H) E) :
    Wp ((evalC T Φ .none Γ).bnd fun b=>match b with
        | true=>(Ak T Φ elt Γ).bnd fun y=>M.ret (some y)
        | false=>.ret none) H Q E:=by
  rw [<- Bc] at h
  exact (Az _ _).mpr (show Wp _ H Q E from (Az _ _).mpr h)
theorem wp_step {elt c:ME} {Q:Option Val -> Hp -> Prop} (h:wpE T Φ c Γ H (fun v H=>Eg v fun b=>brB b (wpE T Φ elt Γ H (fun y H=>Q (some y) H) E) (Q none H)) E) :
    Wp ((evalC T Φ (.some c) Γ).bnd fun b=>match b with
        | true=>(Ak T Φ elt Γ).bnd fun y=>M.ret (some y)
        | false=>.ret none) H Q E:=by
  simp only [<- Bc] at h
  rw [Az]
  refine (Az _ _).mpr (h.mono ?_ (fun _ _ h=>h))
  intro v H h
  cases v with
  | bool b =>
    cases b with
    | true=>exact (Az _ _).mpr h
    | false=>exact h
  | _=>exact h
end
section
variable {T:Tab} {Φ:Funs} {Γ:Env'} {H:Hp}
variable {Q:Val -> Hp -> Prop} {E:Nat -> Hp -> Prop}
theorem F6 (x y:Int):Lg .add (.int x) (.int y) H Q E=Q (.int (x+y)) H:=rfl
theorem My (x y:Int):Lg .sub (.int x) (.int y) H Q E=Q (.int (x - y)) H:=rfl
theorem Iu (x y:Int):Lg .mul (.int x) (.int y) H Q E=((small x || small y)=true /\ Q (.int (x * y)) H):=rfl
theorem H9 (x y:Int):Lg .fdiv (.int x) (.int y) H Q E=(¬ (y=0 \/ 1073741824 <= y.natAbs) /\ Q (.int (Int.fdiv x y)) H):=rfl
theorem Jv (x y:Int):Lg .mod (.int x) (.int y) H Q E=(¬ (y=0) /\ Q (.int (Int.fmod x y)) H):=rfl
theorem Gg (n:Int):Wp (bfV .range [.int n]) H Q E=((-1073741824 <= n /\ n <= 1073741824) /\ Q (.rng n) H):=Yv _ _
theorem B2 (ns:List Int):Wp (bfV .len [.script ns]) H Q E=Q (.int ns.length) H:=by rw [Lf,Mw]
theorem D2 (xs:List Val):Wp (bfV .len [.tup xs]) H Q E=Q (.int xs.length) H:=rfl
theorem Ar {l:Nat} {xs:List Val} (h:H[l]?=some (.list xs)):Wp (bfV .len [.loc l]) H Q E=Q (.int xs.length) H:=by
  unfold Wp;rw [Q1 h]
theorem Od (a b:Int):Wp (bfV .max2 [.int a,.int b]) H Q E=Q (.int (if b > a then b else a)) H:=rfl
theorem Xc (n:Nat) (i:Int):A5 H n (.int i)=some (.int i):=by cases n <;> rfl
theorem Tz (n:Nat):A5 H n .none=some .none:=by cases n <;> rfl
theorem Q4 (x y:Int) (k:Bool -> Prop):En (Dl .eq (.int x) (.int y) H) k=k (decide (x=y)):=rfl
theorem Oe (x y:Int) (k:Bool -> Prop):En (Dl .ne (.int x) (.int y) H) k=k (!decide (x=y)):=rfl
theorem T0 (x y:Bool) (k:Bool -> Prop):En (Dl .ne (.bool x) (.bool y) H) k=k (!decide (x=y)):=rfl
theorem J7 (x y:Int) (k:Bool -> Prop):En (Dl .lt (.int x) (.int y) H) k=k (decide (x < y)):=rfl
theorem Q5 (x y:Int) (k:Bool -> Prop):En (Dl .gt (.int x) (.int y) H) k=k (decide (y < x)):=rfl
theorem T3 (x y:Int) (k:Bool -> Prop):En (Dl .le (.int x) (.int y) H) k=k (decide (x <= y)):=rfl
theorem T4 (x y:Int) (k:Bool -> Prop):En (Dl .ge (.int x) (.int y) H) k=k (decide (y <= x)):=rfl
theorem Dh (k:Bool -> Prop):En (Dl .is .none .none H) k=k true:=rfl
theorem B3 (i:Int) (k:Bool -> Prop):En (Dl .is (.int i) .none H) k=k false:=rfl
theorem Dd (k:Bool -> Prop):En (Dl .isNot .none .none H) k=k false:=rfl
theorem Ca (i:Int) (k:Bool -> Prop):En (Dl .isNot (.int i) .none H) k=k true:=rfl
theorem Aed (v:Val) (t:Ty) (k:Kd) (h:Ot H v=some k) (ht:∀ c,t≠.cls c):Wp (A6 T v t) H Q E=Q (.bool (Yc t k)) H:=by
  have e:A6 T v t H=.ok (.bool (Yc t k)) H:=by
    unfold A6;rw [Db]
    cases t with
    | cls c=>exact absurd rfl (ht c)
    | _=>dsimp only;rw [h];rfl
  unfold Wp;rw [e]
theorem Ew (i:Int):Wp (A6 T (.int i) .int) H Q E=Q (.bool true) H:=rfl
theorem D8 (i:Int):Wp (A6 T (.int i) .bool) H Q E=Q (.bool false) H:=rfl
theorem Ia (i:Int):Wp (A6 T (.int i) .tuple) H Q E=Q (.bool false) H:=rfl
theorem Gz (i:Int):Wp (A6 T (.int i) .list) H Q E=Q (.bool false) H:=rfl
theorem G0 (i:Bool):Wp (A6 T (.bool i) .int) H Q E=Q (.bool true) H:=rfl
theorem F7 (i:Bool):Wp (A6 T (.bool i) .bool) H Q E=Q (.bool true) H:=rfl
theorem G4 (i:Bool):Wp (A6 T (.bool i) .tuple) H Q E=Q (.bool false) H:=rfl
theorem G5:Wp (A6 T .none .tuple) H Q E=Q (.bool false) H:=rfl
theorem G6:Wp (A6 T .none .int) H Q E=Q (.bool false) H:=rfl
theorem Ib (s:Str):Wp (A6 T (.str s) .tuple) H Q E=Q (.bool false) H:=rfl
theorem Ic (s:Str):Wp (A6 T (.str s) .int) H Q E=Q (.bool false) H:=rfl
theorem Ex (xs:List Val):Wp (A6 T (.tup xs) .tuple) H Q E=Q (.bool true) H:=rfl
theorem Id (xs:List Val):Wp (A6 T (.tup xs) .int) H Q E=Q (.bool false) H:=rfl
theorem T5 (l:Nat) (xs:List Val) (h:H[l]?=some (.list xs)):Wp (A6 T (.loc l) .list) H Q E=Q (.bool true) H :=
  Aed _ _ .list (Ade h) (by intro c h;cases h)
theorem Jw (l:Nat) (xs:List Val) (h:H[l]?=some (.list xs)):Wp (A6 T (.loc l) .tuple) H Q E=Q (.bool false) H :=
  Aed _ _ .list (Ade h) (by intro c h;cases h)
theorem Fb (x:Val) (xs:List Val):Wp (De (.tup (x :: xs)) (.int 0)) H Q E=Q x H:=rfl
theorem Fc (x y:Val) (xs:List Val):Wp (De (.tup (x :: y :: xs)) (.int 1)) H Q E=Q y H:=rfl
theorem Of (x y z:Val) (xs:List Val):Wp (De (.tup (x :: y :: z :: xs)) (.int 2)) H Q E=Q z H:=rfl
theorem T6 (k n:Nat) (h:k < n):C0 (k:Int) n=some k:=by
  unfold C0
  rw [if_pos (by exact Ni),if_pos (by exact Vg h)];rfl
theorem Mz (k:Int) (n:Nat) (h0:0 <= k) (h:k < n):C0 k n=some k.toNat:=by
  unfold C0
  rw [if_pos h0,if_pos h]
theorem Og {l:Nat} {xs:List Val} (h:H[l]?=some (.list xs)) {k:Int} {v:Val} (h0:0 <= k) (hk:xs[k.toNat]?=some v) (q:Q v H):Wp (De (.loc l) (.int k)) H Q E:=by
  have lt:=(List.getElem?_eq_some_iff.mp hk).1
  refine Wp.of_eq ?_ q
  unfold De;rw [Db]
  simp only [h,Mz k xs.length h0 (by exact o16 h0 lt),Option.bind_some,hk]
theorem Oh {l:Nat} {xs:List Val} (h:H[l]?=some (.list xs)):Go .append (.loc l) H=some ():=if_pos (Md h)
theorem Pq {l:Nat} {xs:List Val} (h:H[l]?=some (.list xs)):Go .pop (.loc l) H=some ():=if_pos (Md h)
theorem T7 {l:Nat} {xs:List Val} {v:Val} (h:H[l]?=some (.list xs)) (hl:xs.length < lid) (q:Q .none (H.set l (.list (xs++[v])))):Wp (bmV .append (.loc l) [v]) H Q E:=by
  refine Wp.of_eq ?_ q
  unfold bmV;simp only [h]
  exact if_pos hl
theorem Yx {l:Nat} {xs:List Val} {v:Val} (h:H[l]?=some (.list xs)) (hv:xs.getLast?=some v) (q:Q v (H.set l (.list xs.dropLast))):Wp (bmV .pop (.loc l) []) H Q E:=by
  refine Wp.of_eq ?_ q
  unfold bmV;simp only [h,hv]
theorem Cw {i:Nat} {e:ME} {l:Nat} {xs:List Val} (hi:Γ[i]?=some (some (.loc l))) (h:H[l]?=some (.list xs))
    (q:wpE T Φ e Γ H (fun v H'=>∃ ys,H'[l]?=some (.list ys) /\ ys.length < lid /\ Q .none (H'.set l (.list (ys++[v])))) E):wpE T Φ (.bm (.var i) .append (.cons e .nil)) Γ H Q E:=by
  rw [Q3,A0]
  rw [Eh,hi]
  show En (Go _ _ _) _
  rw [Oh h]
  refine Pm q ?_ (fun _ _ h=>h)
  intro v H' zz
  refine ex1 zz fun ys zz=>An zz fun hy hl q=>?_
  exact T7 hy hl q
end
theorem F8 {n:Nat} (h:n <= 16777216):small (n:Int)=true:=by
  unfold small
  rw [decide_eq_true (Int.lt_of_lt_of_le (by decide:-(2 ^ 64) < (0:Int)) (Int.natCast_nonneg n)),decide_eq_true (Int.lt_of_le_of_lt (Int.ofNat_le.mpr h) (by decide:((16777216:Nat):Int) < 2 ^ 64))];rfl
noncomputable def Ext (H H':Hp):Prop:=∃ K,H'=H++K
theorem Ext.refl (H:Hp):Ext H H:=⟨[],by simp⟩
theorem Ext.trans {H H1 H2:Hp}:Ext H H1 -> Ext H1 H2 -> Ext H H2
  | ⟨K,e⟩,⟨L,f⟩=>⟨K++L,by rw [f,e,List.append_assoc]⟩
theorem Ext.new {H H':Hp} (h:Ext H H') (o:HObj):Ext H (H'++[o]):=h.trans ⟨[o],rfl⟩
theorem Ext.get {H H':Hp} (h:Ext H H') {l:Nat} {o:HObj} (g:H[l]?=some o):H'[l]?=some o:=by
  obtain ⟨K,rfl⟩:=h
  rw [List.getElem?_append_left (List.getElem?_eq_some_iff.mp g).1];exact g
theorem Ext.len {H H':Hp} (h:Ext H H'):H.length <= H'.length:=by
  obtain ⟨K,rfl⟩:=h;simp
theorem Ext.set {H H':Hp} (h:Ext H H') {l:Nat} (hl:H.length <= l) (o:HObj):Ext H (H'.set l o):=by
  obtain ⟨K,rfl⟩:=h
  exact ⟨K.set (l - H.length) o,by rw [List.set_append_right _ _ hl]⟩
theorem Al (H:Hp) (o:HObj):(H++[o])[H.length]?=some o:=by simp
theorem Bw {H:Hp} {l:Nat} {o:HObj} (g:H[l]?=some o):l < H.length:=(List.getElem?_eq_some_iff.mp g).1
theorem Bo {H:Hp} {l:Nat} {o:HObj} (o':HObj) (g:H[l]?=some o):(H.set l o')[l]?=some o':=by
  rw [List.getElem?_set_self (Bw g)]
theorem Ay {H:Hp} {l m:Nat} {o:HObj} (o':HObj) (hne:l≠m) (g:H[m]?=some o):(H.set l o')[m]?=some o:=by
  rw [List.getElem?_set_ne hne];exact g
theorem B4 {H:Hp} {l:Nat} {xs:List Val} (h:H[l]?=some (.list xs)):chk (some l) xs H=true:=by
  exact Adc h
theorem Bx {H:Hp} {l:Nat} {xs:List Val} (h:H[l]?=some (.list xs)):Cy (.loc l) H=some (xs,some l):=Zs h
theorem Jx {H:Hp} {l:Nat} {xs:List Val} (h:H[l]?=some (.list xs)):Hb (.loc l) H=some (xs,l):=Rr h
noncomputable def L3 (n:Int):List Val:=(List.range n.toNat).map (fun (k:Nat)=>.int (k:Int))
theorem Pr {n:Int} {k:Nat} {x:Val} (h:(L3 n)[k]?=some x):x=.int k /\ (k:Int) < n:=by
  unfold L3 at h
  rw [List.getElem?_map] at h
  cases e:(List.range n.toNat)[k]? with
  | none=>rw [e] at h;exact nomatch h
  | some j =>
    rw [e] at h
    obtain ⟨lt,g⟩:=List.getElem?_eq_some_iff.mp e
    simp at g lt h
    subst g
    exact ⟨h.symm,by assumption⟩
theorem Ps (n:Int):(L3 n).length=n.toNat:=by simp [L3]
section
variable {T:Tab} {Φ:Funs} {Γ:Env'} {H:Hp} {QS:Env' -> Hp -> Prop} {R:Val -> Hp -> Prop} {ES:Nat -> Env' -> Hp -> Prop}
theorem D9 {s:MS} {ss:MSs} (P:Env' -> Hp -> Prop) (h:wpS T Φ s Γ H P R ES) (q:∀ Γ H,P Γ H -> wpSs T Φ ss Γ H QS R ES):wpSs T Φ (.cons s ss) Γ H QS R ES:=by
  skip;exact Xa h q (fun _ _ h=>h) (fun _ _ _ h=>h)
theorem Au {i:Nat} {e:ME} {ss:MSs} (P:Val -> Hp -> Prop) (h:wpE T Φ e Γ H P NoE) (q:∀ v H,P v H -> wpSs T Φ ss (Γ.set i (some v)) H QS R ES):wpSs T Φ (.cons (.assign i e) ss) Γ H QS R ES:=by
  skip;exact A4 h q
theorem Iv {e:ME} {ss:MSs} (P:Hp -> Prop) (h:wpE T Φ e Γ H (fun _ H=>P H) NoE) (q:∀ H,P H -> wpSs T Φ ss Γ H QS R ES):wpSs T Φ (.cons (.expr e) ss) Γ H QS R ES:=by
  skip;exact A4 h (fun _=>q)
theorem Iw {c:ME} {t ss:MSs} (P:Hp -> Prop) (h:wpE T Φ c Γ H (fun v H=>v=.bool false /\ P H) NoE) (q:∀ H,P H -> wpSs T Φ ss Γ H QS R ES):wpSs T Φ (.cons (.ite c t .nil) ss) Γ H QS R ES:=by
  refine A4 h ?_
  rintro v H ⟨rfl,p⟩
  exact q H p
theorem Abm {c:ME} {t f ss:MSs} (P:Hp -> Prop) (h:wpE T Φ c Γ H (fun v H=>v=.bool true /\ P H) NoE) (q:∀ H,P H -> wpSs T Φ t Γ H (fun Γ H=>wpSs T Φ ss Γ H QS R ES) R ES):wpSs T Φ (.cons (.ite c t f) ss) Γ H QS R ES:=by
  refine A4 h ?_
  rintro v H ⟨rfl,p⟩
  exact q H p
theorem Dk {i:Nat} {e:ME} {body:MSs} {n:Int} (I:Nat -> Env' -> Hp -> Prop)
    (he:wpE T Φ e Γ H (fun v H'=>v=.int n /\ H'=H) NoE) (hn:-1073741824 <= n /\ n <= 1073741824) (h0:I 0 Γ H)
    (hs:∀ (k:Nat) Γ H,(k:Int) < n -> I k Γ H -> wpSs T Φ body (Γ.set i (some (.int k))) H (I (k+1)) R ES)
    (hd:∀ Γ H,I n.toNat Γ H -> QS Γ H):wpS T Φ (.each i (.bf .range (.cons e .nil)) body) Γ H QS R ES:=by
  apply C5
  rw [Dq,Ah]
  refine A4 he ?_
  rintro v H' ⟨rfl,rfl⟩
  rw [Ax,Gg]
  refine ⟨hn,?_⟩
  show WpS (E4 (chk none (L3 n)) _ _ (L3 n) _ _) _ _ _
  refine B9 I h0 ?_ (fun _ _ _ _ _=>rfl) ?_
  · rw [Ps];exact hd
  · intro k x Γ H hx hi
    obtain ⟨hr0,lt⟩:=Pr hx;refine Eq.symm hr0▸?_
    exact ⟨_,rfl,hs k Γ H lt hi⟩
end
section
variable {T:Tab} {Φ:Funs} {Γ:Env'} {H:Hp} {QS:Env' -> Hp -> Prop} {R:Val -> Hp -> Prop} {ES:Nat -> Env' -> Hp -> Prop}
theorem Abn {c d i:Nat} {body:MSs} {hs:MHs} (h0:(T.isExc c && T.isExc d && calmSs (Fh T) body)=true) (h1:T.sub c d=true) (h:wpSs T Φ body (Γ.set i (some (.exc c))) H (fun _ _=>False) R NoX):WpS (execH T Φ (.cons d (some i) body hs) c Γ H) QS R ES:=by
  rw [<- wpSs_eq] at h
  show WpS (if (T.isExc c && T.isExc d && calmSs (Fh T) body)=false then .bad else if T.sub c d=true then _ else _) QS R ES
  rw [h0,if_neg (by decide),if_pos h1]
  show WpS (match execSs T Φ body (Γ.set i (some (.exc c))) H with
      | .ret v H'=>.ret v H'
      | _=>.bad) QS R ES
  generalize execSs T Φ body (Γ.set i (some (.exc c))) H=r at h
  cases r <;> exact h
end
end Mine.Internal.Pure
namespace Mine.Internal.Pile
section
variable {α:Type}
structure Ord (lt:α -> α -> Bool):Prop where
  asym:∀ a b,lt a b=true -> lt b a=false
  tr:∀ a b c,lt b a=false -> lt c b=false -> lt c a=false
variable {lt:α -> α -> Bool}
theorem Ord.irr (o:Ord lt) (a:α):lt a a=false:=by
  cases h:lt a a with
  | false=>rfl
  | true=>have:=o.asym a a h;rw [h] at this;cases this
noncomputable def par (i:Nat):Nat:=(i - 1) / 2
theorem F9 {i:Nat} (h:0 < i):par i < i:=by unfold par;exact Ajt h
noncomputable def Aee (lt:α -> α -> Bool) (h:List α) (i:Nat):Prop:=∀ x y,h[i]?=some x -> h[par i]?=some y -> lt x y=false
noncomputable def Bl (lt:α -> α -> Bool) (h:List α):Prop:=∀ i,0 < i -> Aee lt h i
noncomputable def Xd (h:List α) (i j:Nat) (a b:α):List α:=(h.set i b).set j a
theorem Lj (h:List α) (i j:Nat) (a b:α):(Xd h i j a b).length=h.length:=by simp [Xd]
theorem Pt {h:List α} {i j:Nat} {a b:α} (hi:h[i]?=some a) (hj:h[j]?=some b) (k:Nat):(Xd h i j a b)[k]?=if k=j then some a else if k=i then some b else h[k]?:=by
  have li:=(List.getElem?_eq_some_iff.mp hi).1
  have lj:=(List.getElem?_eq_some_iff.mp hj).1
  unfold Xd
  by_cases e:k=j
  · refine Eq.symm e▸?_;rw [List.getElem?_set_self (by simpa using lj),if_pos rfl]
  · rw [List.getElem?_set_ne (fun q=>e q.symm),if_neg e]
    by_cases e2:k=i
    · refine Eq.symm e2▸?_;rw [List.getElem?_set_self li,if_pos rfl]
    · rw [List.getElem?_set_ne (fun q=>e2 q.symm),if_neg e2]
theorem M0 {h:List α} {i j:Nat} {a b:α} (hi:h[i]?=some a) (hj:h[j]?=some b):(Xd h i j a b).Perm h:=by
  obtain ⟨li,hr0⟩:=List.getElem?_eq_some_iff.mp hi;refine hr0▸?_
  obtain ⟨lj,rfl⟩:=List.getElem?_eq_some_iff.mp hj
  exact List.set_set_perm li lj
structure Up (lt:α -> α -> Bool) (h:List α) (at':Nat):Prop where
  rest:∀ i,0 < i -> i≠at' -> Aee lt h i
  over:0 < at' -> ∀ c,0 < c -> par c=at' -> ∀ x y,h[c]?=some x -> h[par at']?=some y -> lt x y=false
theorem Up.done {h:List α} {k:Nat} (u:Up lt h k) (e:k=0 \/ Aee lt h k):Bl lt h:=by
  intro i hi
  by_cases q:i=k
  · subst q;rcases e with e | e
    · exact (Aju hi e).elim
    · exact e
  · exact u.rest i hi q
theorem Up.put {h:List α} (p:Bl lt h) (v:α):Up lt (h++[v]) h.length:=by
  refine ⟨fun i hi ne x y hx hy=>?_,fun _ c hc e x y hx _=>?_⟩
  · have li:i < (h++[v]).length:=(List.getElem?_eq_some_iff.mp hx).1
    simp at li
    have:=F9 hi
    rw [List.getElem?_append_left (by exact Ajv li ne)] at hx
    rw [List.getElem?_append_left (by exact Ag0 li this)] at hy
    exact p i hi x y hx hy
  · have li:c < (h++[v]).length:=(List.getElem?_eq_some_iff.mp hx).1
    simp at li
    have:=F9 hc
    exact (Ajw li this e).elim
theorem Up.step (o:Ord lt) {h:List α} {k:Nat} {a b:α} (hk:0 < k) (u:Up lt h k) (ha:h[k]?=some a) (hb:h[par k]?=some b) (l:lt a b=true):Up lt (Xd h (par k) k b a) (par k):=by
  have g:=Pt hb ha
  have pk:=F9 hk
  refine ⟨fun i hi ne x y hx hy=>?_,fun h0 c hc e x y hx hy=>?_⟩
  · rw [g] at hx hy
    by_cases q:i=k
    · subst q
      rw [if_pos rfl] at hx;cases hx
      rw [if_neg (by exact Ag1 pk),if_pos rfl] at hy;cases hy
      exact o.asym _ _ l
    · rw [if_neg q,if_neg ne] at hx
      by_cases q1:par i=k
      · rw [if_pos q1] at hy;cases hy
        exact u.over hk i hi q1 x b hx hb
      · rw [if_neg q1] at hy
        by_cases q2:par i=par k
        · rw [if_pos q2] at hy;cases hy
          have:=u.rest i hi q x b hx (by rw [q2];exact hb)
          exact o.tr _ _ _ (o.asym _ _ l) this
        · rw [if_neg q2] at hy
          exact u.rest i hi q x y hx hy
  · rw [g] at hx hy
    have p2:=F9 h0
    rw [if_neg (by exact Ajx pk p2 e),if_neg (by exact Ajy p2 e)] at hy
    have top:=u.rest (par k) h0 (by exact Ajz pk e) b y hb hy
    by_cases q:c=k
    · subst q
      rw [if_pos rfl] at hx;cases hx
      exact top
    · have pc:=F9 hc
      rw [if_neg q,if_neg (by exact Afc pc e)] at hx
      have:=u.rest c hc q x b hx (by rw [e];exact hb)
      exact o.tr _ _ _ top this
theorem Bl.least (o:Ord lt) {h:List α} (p:Bl lt h) {m:α} (hm:h[0]?=some m):∀ (i:Nat) (x:α),h[i]?=some x -> lt x m=false:=by
  intro i
  induction i using Nat.strongRecOn with
  | ind i ih =>
    intro x hx
    by_cases q:i=0
    · subst q;rw [hm] at hx;cases hx;exact o.irr m
    · have pl:=F9 (Nat.pos_of_ne_zero q)
      have li:=(List.getElem?_eq_some_iff.mp hx).1
      have hy:h[par i]?=some h[par i]:=List.getElem?_eq_getElem (by exact Aj0 pl li)
      exact o.tr _ _ _ (ih _ pl _ hy) (p i (Nat.pos_of_ne_zero q) x _ hx hy)
structure Down (lt:α -> α -> Bool) (h:List α) (at':Nat):Prop where
  rest:∀ i,0 < i -> par i≠at' -> Aee lt h i
  over:0 < at' -> ∀ c,0 < c -> par c=at' -> ∀ x y,h[c]?=some x -> h[par at']?=some y -> lt x y=false
theorem Down.done {h:List α} {k:Nat} (u:Down lt h k) (e:∀ c,0 < c -> par c=k -> Aee lt h c):Bl lt h:=by
  intro i hi
  by_cases q:par i=k
  · exact e i hi q
  · exact u.rest i hi q
theorem Down.top {h:List α} (p:Bl lt h) (v:α):Down lt (h.set 0 v) 0:=by
  refine ⟨fun i hi ne x y hx hy=>?_,fun h0=>absurd h0 (Nat.lt_irrefl _)⟩
  rw [List.getElem?_set_ne (by exact Aj1 hi)] at hx
  rw [List.getElem?_set_ne (fun q=>ne q.symm)] at hy
  exact p i hi x y hx hy
theorem Down.step (o:Ord lt) {h:List α} {k s:Nat} {a b:α} (u:Down lt h k) (hs:0 < s) (e:par s=k) (ha:h[k]?=some a) (hb:h[s]?=some b) (l:lt b a=true)
    (other:∀ c,0 < c -> par c=k -> ∀ x,h[c]?=some x -> lt x b=false):Down lt (Xd h k s a b) s:=by
  have g:=Pt ha hb
  have ps:=F9 hs
  refine ⟨fun i hi ne x y hx hy=>?_,fun h0 c hc e2 x y hx hy=>?_⟩
  · rw [g] at hx hy
    rw [if_neg ne] at hy
    by_cases q:i=s
    · subst q
      rw [if_pos rfl] at hx;cases hx
      rw [if_pos e] at hy;cases hy
      exact o.asym _ _ l
    · rw [if_neg q] at hx
      by_cases q1:i=k
      · subst q1
        rw [if_pos rfl] at hx;cases hx
        have:=F9 hi
        rw [if_neg (by exact Ag1 this)] at hy
        exact u.over hi s hs e b y hb hy
      · rw [if_neg q1] at hx
        by_cases q2:par i=k
        · rw [if_pos q2] at hy;cases hy
          exact other i hi q2 x hx
        · rw [if_neg q2] at hy
          exact u.rest i hi q2 x y hx hy
  · rw [g] at hx hy
    have pc:=F9 hc
    rw [e,if_neg (by exact Aj2 ps e e2),if_pos rfl] at hy;cases hy
    rw [if_neg (by exact Afc pc e2),if_neg (by exact Aj3 ps pc e e2)] at hx
    exact u.rest c hc (by exact Aj4 ps e e2) x b hx (by rw [e2];exact hb)
end
end Mine.Internal.Pile
namespace Mine.Internal
open PySem
noncomputable abbrev zT18 : MSs := .cons (.ite (.not (.call 20 (.cons (.var 3) (.cons (.var 11) .nil)))) (.cons (.ret (.some (.bool false))) .nil) .nil) .nil
noncomputable abbrev zT17 : MSs := .cons (.expr (.bm (.var 3) .append (.cons (.comp (.call 11 (.cons (.var 6) (.cons (.var 2) .nil))) (.var 5) .none) .nil))) .nil
noncomputable abbrev zT16 : MSs := .cons (.each 3 (.var 2) (.cons (.ite (.not (.call 4 (.cons (.var 3) .nil))) (.cons (.raise 2 "a height or None is wanted") .nil) .nil) .nil)) .nil
noncomputable abbrev zT15 : MSs := .cons (.ite (.cmp .ne (.bf .len (.cons (.var 1) .nil)) (.bf .len (.cons (.sub (.var 0) (.int 0)) .nil))) (.cons (.raise 1 "all rows are as long") .nil) .nil) .nil
noncomputable abbrev zT14 : MSs := .cons (.ite (.and (.cmp .lt (.var 5) (.bf .len (.cons (.var 1) .nil))) (.cmp .lt (.sub (.var 1) (.var 5)) (.sub (.var 1) (.var 4)))) (.cons (.assign 4 (.var 5)) .nil) .nil) .nil
noncomputable abbrev zT13 : MSs := .cons (.ite (.and (.cmp .isin (.var 4) (.var 2)) (.or (.cmp .is (.var 3) .none) (.cmp .lt (.sub (.var 2) (.var 4)) (.var 3)))) (.cons (.assign 3 (.sub (.var 2) (.var 4))) .nil) .nil) .nil
noncomputable abbrev zT12 : MSs := .cons (.ite (.or (.not (.isinst (.var 1) .list)) (.not (.call 0 (.cons (.bf .len (.cons (.var 1) .nil)) (.cons (.int 1) (.cons (.glob 0) .nil)))))) (.cons (.raise 1 "a row is a list of heights") .nil) .nil) .nil
noncomputable abbrev zT11 : MSs := .cons (.assign 3 (.cmp .ne (.var 4) (.var 2))) (.cons (.assign 6 (.sub (.var 1) (.var 2))) (.cons (.setitem (.var 1) (.var 2) (.sub (.var 1) (.var 4))) (.cons (.setitem (.var 1) (.var 4) (.var 6)) (.cons (.assign 2 (.var 4)) .nil))))
noncomputable abbrev zT10 : MSs := .cons (.setitem (.var 1) (.var 4) (.umeth (.var 0) 2 (.cons (.var 4) .nil))) (.cons (.setitem (.var 2) (.var 4) .none) (.cons (.expr (.umeth (.var 3) 6 (.cons (.tup (.cons (.sub (.var 1) (.var 4)) (.cons (.var 4) .nil))) .nil))) .nil))
noncomputable abbrev zT9 : MSs := .cons (.assign 4 (.bin .fdiv (.bin .sub (.var 3) (.int 1)) (.int 2))) (.cons (.assign 5 (.sub (.var 2) (.var 4))) (.cons (.setitem (.var 2) (.var 4) (.sub (.var 2) (.var 3))) (.cons (.setitem (.var 2) (.var 3) (.var 5)) (.cons (.assign 3 (.var 4)) .nil))))
noncomputable abbrev zT8 : MSs := .cons (.assign 7 (.umeth (.var 0) 2 (.cons (.var 6) .nil))) (.cons (.ite (.and (.cmp .notin (.var 6) (.var 3)) (.and (.cmp .isNot (.var 7) .none) (.cmp .lt (.var 7) (.var 2)))) (.cons (.setitem (.var 3) (.var 6) (.bool true)) (.cons (.expr (.bm (.var 4) .append (.cons (.var 6) .nil))) .nil)) .nil) .nil)
noncomputable abbrev zT7 : MSs := .cons (.assign 5 (.bm (.var 4) .pop .nil)) (.cons (.each 6 (.call 2 (.cons (.attr (.var 0) 0) (.cons (.attr (.var 0) 1) (.cons (.var 5) .nil)))) zT8) .nil)
noncomputable abbrev zT6 : MSs := .cons (.assign 7 (.bin .add (.bin .mul (.var 5) (.bf .len (.cons (.sub (.var 1) (.int 0)) .nil))) (.var 6))) (.cons (.ite (.and (.cmp .isNot (.sub (.sub (.var 1) (.var 5)) (.var 6)) .none) (.cmp .eq (.bin .mod (.bin .add (.var 2) (.bin .mul (.var 7) (.bin .add (.int 1) (.bin .mod (.bin .fdiv (.var 2) (.int 12)) (.int 5))))) (.var 3)) (.int 0))) (.cons (.expr (.bm (.var 4) .append (.cons (.tup (.cons (.var 5) (.cons (.var 6) .nil))) .nil))) .nil) .nil) .nil)
noncomputable abbrev zT5 : MSs := .cons (.assign 6 (.umeth (.var 0) 2 (.cons (.var 4) .nil))) (.cons (.ite (.cmp .isNot (.var 6) .none) (.cons (.assign 7 (.bf .max2 (.cons (.var 6) (.cons (.sub (.var 5) (.int 0)) .nil)))) (.cons (.ite (.or (.cmp .notin (.var 4) (.var 1)) (.cmp .lt (.var 7) (.sub (.var 1) (.var 4)))) (.cons (.setitem (.var 1) (.var 4) (.var 7)) (.cons (.setitem (.var 2) (.var 4) (.sub (.var 5) (.int 1))) (.cons (.expr (.umeth (.var 3) 6 (.cons (.tup (.cons (.var 7) (.cons (.var 4) .nil))) .nil))) .nil))) .nil) .nil)) .nil) .nil)
noncomputable abbrev zT4 : MSs := .cons (.assign 7 (.tup (.cons (.bin .mod (.bin .add (.var 5) (.var 6)) (.bf .len (.cons (.var 1) .nil))) (.cons (.bin .mod (.bin .add (.bin .fdiv (.var 5) (.int 31)) (.var 6)) (.bf .len (.cons (.sub (.var 1) (.int 0)) .nil))) .nil)))) (.cons (.each 8 (.bf .range (.cons (.int 2) .nil)) (.cons (.assign 9 (.call 7 (.cons (.var 3) (.cons (.var 7) .nil)))) (.cons (.ite (.not (.call 35 (.cons (.var 9) (.cons (.call 21 (.cons (.var 1) (.cons (.var 4) (.cons (.var 7) .nil)))) .nil)))) (.cons (.ret (.some (.bool false))) .nil) .nil) (.cons (.expr (.bm (.var 9) .append (.cons (.tup (.cons (.int 0) (.cons (.int 0) .nil))) .nil))) .nil)))) .nil)
noncomputable abbrev zT3 : MSs := .cons (.assign 7 (.call 17 (.cons (.var 0) (.cons (.tup (.cons (.var 5) (.cons (.var 6) .nil))) (.cons (.var 2) .nil))))) (.cons (.ite (.and (.cmp .isNot (.sub (.sub (.var 0) (.var 5)) (.var 6)) .none) (.cmp .isNot (.var 7) .none)) (.cons (.assign 7 (.bf .max2 (.cons (.var 7) (.cons (.sub (.sub (.var 0) (.var 5)) (.var 6)) .nil)))) (.cons (.ite (.or (.cmp .notin (.tup (.cons (.var 5) (.cons (.var 6) .nil))) (.var 2)) (.cmp .lt (.var 7) (.sub (.var 2) (.tup (.cons (.var 5) (.cons (.var 6) .nil)))))) (.cons (.setitem (.var 2) (.tup (.cons (.var 5) (.cons (.var 6) .nil))) (.var 7)) (.cons (.assign 4 (.bool true)) .nil)) .nil) .nil)) .nil) .nil)
noncomputable abbrev zT2 : MSs := .cons (.assign 4 (.list (.cons (.var 2) .nil))) (.cons (.each 5 (.bf .list (.cons (.bf .range (.cons (.bin .mul (.bf .len (.cons (.var 0) .nil)) (.bf .len (.cons (.sub (.var 0) (.int 0)) .nil))) .nil)) .nil)) (.cons (.ite (.cmp .lt (.var 5) (.bf .len (.cons (.var 4) .nil))) (.cons (.each 6 (.call 16 (.cons (.var 0) (.cons (.sub (.var 4) (.var 5)) .nil))) (.cons (.assign 7 (.or (.cmp .notin (.var 2) (.var 1)) (.cmp .lt (.sub (.sub (.var 0) (.sub (.var 6) (.int 0))) (.sub (.var 6) (.int 1))) (.sub (.var 1) (.var 2))))) (.cons (.ite (.and (.cmp .notin (.var 6) (.var 4)) (.var 7)) (.cons (.expr (.bm (.var 4) .append (.cons (.var 6) .nil))) .nil) .nil) .nil))) .nil) .nil) .nil)) (.cons (.ret (.some (.bf .sorted (.cons (.var 4) .nil)))) .nil))
noncomputable abbrev zT1 : MSs := .cons (.assign 5 (.umeth (.var 3) 8 .nil)) (.cons (.ite (.cmp .eq (.sub (.var 1) (.sub (.var 5) (.int 1))) (.sub (.var 5) (.int 0))) (.cons (.each 4 (.call 2 (.cons (.attr (.var 0) 0) (.cons (.attr (.var 0) 1) (.cons (.sub (.var 5) (.int 1)) .nil)))) zT5) .nil) .nil) .nil)
noncomputable abbrev zT0 : MSs := .cons (.assign 4 (.bool false)) (.cons (.each 5 (.bf .range (.cons (.bf .len (.cons (.var 0) .nil)) .nil)) (.cons (.each 6 (.bf .range (.cons (.bf .len (.cons (.sub (.var 0) (.int 0)) .nil)) .nil)) zT3) .nil)) .nil)
noncomputable def Q6:MFun:=⟨3,0,(.cons (.ite (.or (.not (.isinst (.var 0) .int)) (.isinst (.var 0) .bool)) (.cons (.ret (.some (.bool false))) .nil) .nil) (.cons (.ret (.some (.cmp2 .le .le (.var 1) (.var 0) (.var 2)))) .nil))⟩
noncomputable def Oi:MFun:=⟨3,0,(.cons (.ite (.or (.not (.isinst (.var 2) .tuple)) (.cmp .ne (.bf .len (.cons (.var 2) .nil)) (.int 2))) (.cons (.ret (.some (.bool false))) .nil) .nil) (.cons (.ret (.some (.and (.call 0 (.cons (.sub (.var 2) (.int 0)) (.cons (.int 0) (.cons (.bin .sub (.var 0) (.int 1)) .nil)))) (.call 0 (.cons (.sub (.var 2) (.int 1)) (.cons (.int 0) (.cons (.bin .sub (.var 1) (.int 1)) .nil))))))) .nil))⟩
noncomputable def Abo:MFun:=⟨3,3,(.cons (.assign 3 (.sub (.var 2) (.int 0))) (.cons (.assign 4 (.sub (.var 2) (.int 1))) (.cons (.assign 5 (.list (.cons (.tup (.cons (.bin .sub (.var 3) (.int 1)) (.cons (.var 4) .nil))) (.cons (.tup (.cons (.var 3) (.cons (.bin .sub (.var 4) (.int 1)) .nil))) (.cons (.tup (.cons (.var 3) (.cons (.bin .add (.var 4) (.int 1)) .nil))) (.cons (.tup (.cons (.bin .add (.var 3) (.int 1)) (.cons (.var 4) .nil))) .nil)))))) (.cons (.ret (.some (.comp (.var 6) (.var 5) (.some (.call 1 (.cons (.var 0) (.cons (.var 1) (.cons (.var 6) .nil)))))))) .nil))))⟩
noncomputable def Aef:MFun:=⟨2,3,(.cons (.assign 2 (.list .nil)) (.cons (.each 3 (.bf .range (.cons (.var 0) .nil)) (.cons (.each 4 (.bf .range (.cons (.var 1) .nil)) (.cons (.expr (.bm (.var 2) .append (.cons (.tup (.cons (.var 3) (.cons (.var 4) .nil))) .nil))) .nil)) .nil)) (.cons (.ret (.some (.var 2))) .nil)))⟩
noncomputable def Abp:MFun:=⟨1,0,(.cons (.ret (.some (.or (.cmp .is (.var 0) .none) (.call 0 (.cons (.var 0) (.cons (.int 0) (.cons (.glob 1) .nil))))))) .nil)⟩
noncomputable def Abq:MFun:=⟨1,1,(.cons (.ite (.or (.not (.isinst (.var 0) .list)) (.not (.call 0 (.cons (.bf .len (.cons (.var 0) .nil)) (.cons (.int 1) (.cons (.glob 0) .nil)))))) (.cons (.raise 1 "a list of rows is wanted") .nil) .nil) (.cons (.each 1 (.var 0) zT12) (.cons (.each 1 (.var 0) zT15) .nil)))⟩
noncomputable def Aeg:MFun:=⟨1,7,(.cons (.assign 1 .dict) (.cons (.assign 2 .dict) (.cons (.assign 3 (.new 8 .nil)) (.cons (.each 4 (.umeth (.var 0) 4 .nil) zT10) (.cons (.loop (.cmp .gt (.umeth (.var 3) 10 .nil) (.int 0)) zT1) (.cons (.ret (.some (.tup (.cons (.var 1) (.cons (.var 2) .nil))))) .nil))))))⟩
noncomputable def T8:MFun:=⟨2,6,(.cons (.ite (.not (.call 1 (.cons (.attr (.var 0) 0) (.cons (.attr (.var 0) 1) (.cons (.var 1) .nil))))) (.cons (.raise 3 "no such cell") .nil) .nil) (.cons (.ite (.cmp .is (.umeth (.var 0) 2 (.cons (.var 1) .nil)) .none) (.cons (.ret (.some (.list .nil))) .nil) .nil) (.cons (.assign 2 (.bm (.sub (.call 6 (.cons (.var 0) .nil)) (.int 0)) .get2 (.cons (.var 1) (.cons (.bin .add (.glob 1) (.int 1)) .nil)))) (.cons (.ite (.cmp .ge (.umeth (.var 0) 2 (.cons (.var 1) .nil)) (.var 2)) (.cons (.ret (.some (.list .nil))) .nil) .nil) (.cons (.assign 3 .dict) (.cons (.setitem (.var 3) (.var 1) (.bool true)) (.cons (.assign 4 (.list (.cons (.var 1) .nil))) (.cons (.loop (.cmp .gt (.bf .len (.cons (.var 4) .nil)) (.int 0)) zT7) (.cons (.ret (.some (.bf .sorted (.cons (.var 3) .nil)))) .nil)))))))))⟩
noncomputable def Abr:MFun:=⟨2,0,(.cons (.ite (.cmp .lt (.var 1) (.bf .len (.cons (.var 0) .nil))) (.cons (.ret (.some (.sub (.var 0) (.var 1)))) .nil) .nil) (.cons (.ret (.some (.int 0))) .nil))⟩
noncomputable def Agj:MFun:=⟨1,0,(.cons (.ret (.some (.and (.isinst (.var 0) .int) (.not (.isinst (.var 0) .bool))))) .nil)⟩
noncomputable def M1:MFun:=⟨1,0,(.cons (.ite (.cmp .eq (.bin .mod (.bin .fdiv (.var 0) (.int 20)) (.int 8)) (.int 1)) (.cons (.ret (.some (.sub (.list (.cons (.tup (.cons (.int 1) (.cons (.int 30) .nil))) (.cons (.tup (.cons (.int 30) (.cons (.int 1) .nil))) (.cons (.tup (.cons (.int 5) (.cons (.int 5) .nil))) (.cons (.tup (.cons (.int 2) (.cons (.int 12) .nil))) (.cons (.tup (.cons (.int 2) (.cons (.int 30) .nil))) (.cons (.tup (.cons (.int 30) (.cons (.int 2) .nil))) (.cons (.tup (.cons (.int 6) (.cons (.int 7) .nil))) (.cons (.tup (.cons (.int 7) (.cons (.int 9) .nil))) .nil))))))))) (.bin .mod (.bin .fdiv (.var 0) (.int 160)) (.int 8))))) .nil) .nil) (.cons (.ret (.some (.tup (.cons (.bin .add (.int 1) (.bin .mod (.var 0) (.int 4))) (.cons (.bin .add (.int 1) (.bin .mod (.bin .fdiv (.var 0) (.int 4)) (.int 5))) .nil))))) .nil))⟩
noncomputable def Yy:MFun:=⟨2,0,(.cons (.ite (.cmp .eq (.bin .mod (.var 0) (.int 9)) (.int 8)) (.cons (.ret (.some .none)) .nil) .nil) (.cons (.ite (.cmp .eq (.var 1) (.int 0)) (.cons (.ret (.some (.bin .mod (.bin .fdiv (.var 0) (.int 9)) (.int 3)))) .nil) .nil) (.cons (.ite (.cmp .eq (.var 1) (.int 1)) (.cons (.ret (.some (.bin .mod (.bin .fdiv (.var 0) (.int 9)) (.int 12)))) .nil) .nil) (.cons (.ite (.cmp .eq (.var 1) (.int 2)) (.cons (.ret (.some (.bin .mod (.bin .fdiv (.var 0) (.int 9)) (.int 1000000001)))) .nil) .nil) (.cons (.ret (.some (.bin .sub (.int 1000000000) (.bin .mod (.bin .fdiv (.var 0) (.int 9)) (.int 2))))) .nil)))))⟩
noncomputable def M2:MFun:=⟨2,0,(.cons (.ite (.cmp .lt (.bin .add (.var 1) (.int 3)) (.bf .len (.cons (.var 0) .nil))) (.cons (.ret (.some (.sub (.var 0) (.bin .add (.var 1) (.int 3))))) .nil) .nil) (.cons (.ret (.some (.bin .add (.bin .add (.bin .mul (.int 7) (.call 8 (.cons (.var 0) (.cons (.int 1) .nil)))) (.bin .mul (.bin .mul (.call 8 (.cons (.var 0) (.cons (.int 2) .nil))) (.var 1)) (.var 1))) (.bin .mul (.int 13) (.var 1))))) .nil))⟩
noncomputable def Yz:MFun:=⟨1,5,(.cons (.assign 1 (.call 10 (.cons (.call 8 (.cons (.var 0) (.cons (.int 0) .nil))) .nil))) (.cons (.assign 2 (.bin .mod (.call 8 (.cons (.var 0) (.cons (.int 1) .nil))) (.int 4))) (.cons (.assign 3 (.list .nil)) (.cons (.each 4 (.bf .range (.cons (.sub (.var 1) (.int 0)) .nil)) (.cons (.assign 5 (.comp (.call 12 (.cons (.var 0) (.cons (.bin .add (.bin .mul (.var 4) (.sub (.var 1) (.int 1))) (.var 6)) .nil))) (.bf .range (.cons (.sub (.var 1) (.int 1)) .nil)) .none)) zT17)) (.cons (.ret (.some (.var 3))) .nil)))))⟩
noncomputable def Y0:MFun:=⟨2,6,(.cons (.assign 2 (.call 8 (.cons (.var 0) (.cons (.int 2) .nil)))) (.cons (.assign 3 (.sub (.list (.cons (.int 2) (.cons (.int 3) (.cons (.int 5) (.cons (.int 9) (.cons (.int 14) .nil)))))) (.bin .mod (.bin .fdiv (.var 2) (.int 60)) (.int 5)))) (.cons (.assign 4 (.list .nil)) (.cons (.each 5 (.bf .range (.cons (.bf .len (.cons (.var 1) .nil)) .nil)) (.cons (.each 6 (.bf .range (.cons (.bf .len (.cons (.sub (.var 1) (.int 0)) .nil)) .nil)) zT6) .nil)) (.cons (.ret (.some (.var 4))) .nil)))))⟩
noncomputable def Y1:MFun:=⟨2,2,(.cons (.assign 2 (.new 7 (.cons (.comp (.bf .list (.cons (.var 4) .nil)) (.var 0) .none) .nil))) (.cons (.each 3 (.var 1) (.cons (.expr (.umeth (.var 2) 3 (.cons (.var 3) .nil))) .nil)) (.cons (.ret (.some (.var 2))) .nil)))⟩
noncomputable def Y2:MFun:=⟨2,1,(.cons (.assign 2 (.list .nil)) (.cons (.ite (.cmp .gt (.sub (.var 1) (.int 0)) (.int 0)) (.cons (.expr (.bm (.var 2) .append (.cons (.tup (.cons (.bin .sub (.sub (.var 1) (.int 0)) (.int 1)) (.cons (.sub (.var 1) (.int 1)) .nil))) .nil))) .nil) .nil) (.cons (.ite (.cmp .gt (.sub (.var 1) (.int 1)) (.int 0)) (.cons (.expr (.bm (.var 2) .append (.cons (.tup (.cons (.sub (.var 1) (.int 0)) (.cons (.bin .sub (.sub (.var 1) (.int 1)) (.int 1)) .nil))) .nil))) .nil) .nil) (.cons (.ite (.cmp .lt (.bin .add (.sub (.var 1) (.int 1)) (.int 1)) (.bf .len (.cons (.sub (.var 0) (.int 0)) .nil))) (.cons (.expr (.bm (.var 2) .append (.cons (.tup (.cons (.sub (.var 1) (.int 0)) (.cons (.bin .add (.sub (.var 1) (.int 1)) (.int 1)) .nil))) .nil))) .nil) .nil) (.cons (.ite (.cmp .lt (.bin .add (.sub (.var 1) (.int 0)) (.int 1)) (.bf .len (.cons (.var 0) .nil))) (.cons (.expr (.bm (.var 2) .append (.cons (.tup (.cons (.bin .add (.sub (.var 1) (.int 0)) (.int 1)) (.cons (.sub (.var 1) (.int 1)) .nil))) .nil))) .nil) .nil) (.cons (.ret (.some (.comp (.var 3) (.var 2) (.some (.cmp .isNot (.sub (.sub (.var 0) (.sub (.var 3) (.int 0))) (.sub (.var 3) (.int 1))) .none))))) .nil))))))⟩
noncomputable def Y3:MFun:=⟨3,2,(.cons (.assign 3 .none) (.cons (.each 4 (.call 16 (.cons (.var 0) (.cons (.var 1) .nil))) zT13) (.cons (.ret (.some (.var 3))) .nil)))⟩
noncomputable def Y4:MFun:=⟨2,6,(.cons (.assign 2 .dict) (.cons (.each 3 (.var 1) (.cons (.setitem (.var 2) (.var 3) (.sub (.sub (.var 0) (.sub (.var 3) (.int 0))) (.sub (.var 3) (.int 1)))) .nil)) (.cons (.assign 4 (.bool true)) (.cons (.loop (.var 4) zT0) (.cons (.ret (.some (.var 2))) .nil)))))⟩
noncomputable def Aeh:MFun:=⟨1,1,(.cons (.assign 1 (.str "")) (.cons (.ite (.isinst (.var 0) (.cls 1)) (.cons (.assign 1 (.bin .add (.var 1) (.str "land "))) .nil) .nil) (.cons (.ite (.isinst (.var 0) (.cls 2)) (.cons (.assign 1 (.bin .add (.var 1) (.str "height "))) .nil) .nil) (.cons (.ite (.isinst (.var 0) (.cls 3)) (.cons (.assign 1 (.bin .add (.var 1) (.str "cell "))) .nil) .nil) (.cons (.ite (.isinst (.var 0) (.cls 4)) (.cons (.assign 1 (.bin .add (.var 1) (.str "drain "))) .nil) .nil) (.cons (.ite (.isinst (.var 0) (.cls 5)) (.cons (.assign 1 (.bin .add (.var 1) (.str "way "))) .nil) .nil) (.cons (.ite (.isinst (.var 0) (.cls 6)) (.cons (.assign 1 (.bin .add (.var 1) (.str "rain "))) .nil) .nil) (.cons (.ite (.isinst (.var 0) (.cls 9)) (.cons (.ret (.some (.bm (.var 1) .rstrip .nil))) .nil) .nil) (.cons (.ret (.some (.str "another base"))) .nil)))))))))⟩
noncomputable def T9:MFun:=⟨2,1,(.cons (.tryx (.cons (.expr (.call 7 (.cons (.var 0) (.cons (.var 1) .nil)))) .nil) (.cons 0 (some 2) (.cons (.ret (.some (.cmp .eq (.call 19 (.cons (.var 2) .nil)) (.str "cell")))) .nil) .nil)) (.cons (.ret (.some (.bool false))) .nil))⟩
noncomputable def Ua:MFun:=⟨3,5,(.cons (.assign 3 (.sub (.sub (.var 0) (.sub (.var 2) (.int 0))) (.sub (.var 2) (.int 1)))) (.cons (.ite (.or (.cmp .is (.var 3) .none) (.and (.cmp .isin (.var 2) (.var 1)) (.cmp .ge (.var 3) (.sub (.var 1) (.var 2))))) (.cons (.ret (.some (.list .nil))) .nil) .nil) zT2))⟩
noncomputable def Y5:MFun:=⟨1,11,(.cons (.assign 1 (.call 13 (.cons (.var 0) .nil))) (.cons (.assign 2 (.call 14 (.cons (.var 0) (.cons (.var 1) .nil)))) (.cons (.assign 3 (.call 15 (.cons (.var 1) (.cons (.var 2) .nil)))) (.cons (.assign 4 (.call 18 (.cons (.var 1) (.cons (.var 2) .nil)))) (.cons (.assign 5 (.call 8 (.cons (.var 0) (.cons (.bf .max2 (.cons (.int 0) (.cons (.bin .sub (.bf .len (.cons (.var 0) .nil)) (.int 1)) .nil))) .nil)))) (.cons (.each 6 (.tup (.cons (.int 0) (.cons (.int 7) .nil))) zT4) (.cons (.assign 10 (.list (.cons (.list (.cons (.int 0) (.cons (.int 0) .nil))) (.cons (.tup (.cons (.int 0) (.cons (.int 0) (.cons (.int 0) .nil)))) (.cons (.tup (.cons (.int 0) (.cons (.bool false) .nil))) (.cons .none (.cons (.tup (.cons (.int 0) .nil)) (.cons (.str "00") (.cons (.tup (.cons (.str "0") (.cons (.int 0) .nil))) (.cons (.tup (.cons (.int 0) (.cons .none .nil))) (.cons (.tup (.cons (.tup (.cons (.int 0) (.cons (.int 0) .nil))) (.cons (.int 0) .nil))) .nil))))))))))) (.cons (.each 11 (.list (.cons (.tup (.cons (.bf .len (.cons (.var 1) .nil)) (.cons (.int 0) .nil))) (.cons (.tup (.cons (.neg (.int 1)) (.cons (.int 0) .nil))) (.cons (.tup (.cons (.int 0) (.cons (.bf .len (.cons (.sub (.var 1) (.int 0)) .nil)) .nil))) (.cons (.tup (.cons (.int 0) (.cons (.neg (.int 1)) .nil))) (.cons (.sub (.var 10) (.bin .mod (.bin .fdiv (.var 5) (.int 7)) (.int 9))) .nil)))))) zT18) (.cons (.ret (.some (.and (.cmp .eq (.umeth (.var 3) 5 .nil) (.var 1)) (.cmp .eq (.umeth (.var 3) 4 .nil) (.var 2))))) .nil)))))))))⟩
noncomputable def Y6:MFun:=⟨2,2,(.cons (.expr (.call 5 (.cons (.var 1) .nil))) (.cons (.each 2 (.var 1) zT16) (.cons (.setattr (.var 0) 0 (.bf .len (.cons (.var 1) .nil))) (.cons (.setattr (.var 0) 1 (.bf .len (.cons (.sub (.var 1) (.int 0)) .nil))) (.cons (.setattr (.var 0) 2 (.comp (.bf .list (.cons (.var 4) .nil)) (.var 1) .none)) (.cons (.setattr (.var 0) 3 .dict) .nil))))))⟩
noncomputable def Ub:MFun:=⟨2,0,(.cons (.ite (.not (.call 1 (.cons (.attr (.var 0) 0) (.cons (.attr (.var 0) 1) (.cons (.var 1) .nil))))) (.cons (.raise 3 "no such cell") .nil) .nil) .nil)⟩
noncomputable def Uc:MFun:=⟨2,0,(.cons (.expr (.umeth (.var 0) 1 (.cons (.var 1) .nil))) (.cons (.ret (.some (.sub (.sub (.attr (.var 0) 2) (.sub (.var 1) (.int 0))) (.sub (.var 1) (.int 1))))) .nil))⟩
noncomputable def Ud:MFun:=⟨2,0,(.cons (.expr (.umeth (.var 0) 1 (.cons (.var 1) .nil))) (.cons (.ite (.cmp .is (.sub (.sub (.attr (.var 0) 2) (.sub (.var 1) (.int 0))) (.sub (.var 1) (.int 1))) .none) (.cons (.raise 4 "stone is no drain") .nil) .nil) (.cons (.setitem (.attr (.var 0) 3) (.var 1) (.bool true)) .nil)))⟩
noncomputable def Ue:MFun:=⟨1,0,(.cons (.ret (.some (.comp (.var 1) (.call 3 (.cons (.attr (.var 0) 0) (.cons (.attr (.var 0) 1) .nil))) (.some (.cmp .isin (.var 1) (.attr (.var 0) 3)))))) .nil)⟩
noncomputable def Uf:MFun:=⟨1,0,(.cons (.ret (.some (.comp (.bf .list (.cons (.var 1) .nil)) (.attr (.var 0) 2) .none))) .nil)⟩
noncomputable def Ug:MFun:=⟨1,0,(.cons (.setattr (.var 0) 4 (.list .nil)) .nil)⟩
noncomputable def Y7:MFun:=⟨2,4,(.cons (.assign 2 (.attr (.var 0) 4)) (.cons (.expr (.bm (.var 2) .append (.cons (.var 1) .nil))) (.cons (.assign 3 (.bin .sub (.bf .len (.cons (.var 2) .nil)) (.int 1))) (.cons (.loop (.and (.cmp .gt (.var 3) (.int 0)) (.cmp .lt (.sub (.var 2) (.var 3)) (.sub (.var 2) (.bin .fdiv (.bin .sub (.var 3) (.int 1)) (.int 2))))) zT9) .nil))))⟩
noncomputable def Aei:MFun:=⟨1,0,(.cons (.ite (.cmp .eq (.bf .len (.cons (.attr (.var 0) 4) .nil)) (.int 0)) (.cons (.ret (.some .none)) .nil) .nil) (.cons (.ret (.some (.sub (.attr (.var 0) 4) (.int 0)))) .nil))⟩
noncomputable def Y8:MFun:=⟨1,3,(.cons (.assign 1 (.attr (.var 0) 4)) (.cons (.ite (.cmp .eq (.bf .len (.cons (.var 1) .nil)) (.int 0)) (.cons (.ret (.some .none)) .nil) .nil) (.cons (.assign 2 (.sub (.var 1) (.int 0))) (.cons (.assign 3 (.bm (.var 1) .pop .nil)) (.cons (.ite (.cmp .gt (.bf .len (.cons (.var 1) .nil)) (.int 0)) (.cons (.setitem (.var 1) (.int 0) (.var 3)) (.cons (.expr (.umeth (.var 0) 9 .nil)) .nil)) .nil) (.cons (.ret (.some (.var 2))) .nil))))))⟩
noncomputable def Y9:MFun:=⟨1,6,(.cons (.assign 1 (.attr (.var 0) 4)) (.cons (.assign 2 (.int 0)) (.cons (.assign 3 (.bool true)) (.cons (.loop (.var 3) (.cons (.assign 4 (.var 2)) (.cons (.each 5 (.list (.cons (.bin .add (.bin .mul (.int 2) (.var 2)) (.int 1)) (.cons (.bin .add (.bin .mul (.int 2) (.var 2)) (.int 2)) .nil))) zT14) zT11))) .nil))))⟩
noncomputable def Uh:MFun:=⟨1,0,(.cons (.ret (.some (.bf .len (.cons (.attr (.var 0) 4) .nil)))) .nil)⟩
noncomputable def Za:MFun:=⟨2,2,(.cons (.ite (.or (.not (.isinst (.var 0) .list)) (.cmp .ne (.bf .len (.cons (.var 0) .nil)) (.bf .len (.cons (.var 1) .nil)))) (.cons (.ret (.some (.bool false))) .nil) .nil) (.cons (.eachZip 2 3 (.var 0) (.var 1) (.cons (.ite (.or (.not (.isinst (.var 2) .tuple)) (.or (.cmp .ne (.bf .len (.cons (.var 2) .nil)) (.int 2)) (.or (.not (.call 9 (.cons (.sub (.var 2) (.int 0)) .nil))) (.not (.call 9 (.cons (.sub (.var 2) (.int 1)) .nil)))))) (.cons (.ret (.some (.bool false))) .nil) .nil) (.cons (.ite (.or (.cmp .ne (.sub (.var 2) (.int 0)) (.sub (.var 3) (.int 0))) (.cmp .ne (.sub (.var 2) (.int 1)) (.sub (.var 3) (.int 1)))) (.cons (.ret (.some (.bool false))) .nil) .nil) .nil))) (.cons (.ret (.some (.bool true))) .nil)))⟩
noncomputable def T_09:Tab:=⟨[Q6,Oi,Abo,Aef,Abp,Abq,Aeg,T8,Abr,Agj,M1,Yy,M2,Yz,Y0,Y1,Y2,Y3,Y4,Aeh,T9,Ua,Y5,Y6,Ub,Uc,Ud,Ue,Uf,Ug,Y7,Aei,Y8,Y9,Uh,Za],[[],[],[],[],[],[],[],[(0,23),(1,24),(2,25),(3,26),(4,27),(5,28)],[(0,29),(6,30),(7,31),(8,32),(9,33),(10,34)],[]],[[0,9],[1,0,9],[2,0,9],[3,0,9],[4,0,9],[5,0,9],[6,0,9],[7],[8],[9]],[.int 30,.int 1000000000]⟩
noncomputable def N_09:Names:=⟨[("whole",0),("lies_in",1),("beside",2),("all_cells",3),("is_height",4),("look_at_rows",5),("flood",6),("held_by",7),("_law_cell_at",8),("_law_whole",9),("_law_size",10),("_law_height_by",11),("_law_number",12),("_law_grid",13),("_law_drains",14),("_law_land",15),("_law_beside",16),("_law_least_beside",17),("_law_levels",18),("_law_word_of",19),("_law_is_refused",20),("_law_due",21),("law",22),("_law_same_cells",35)],[("LandError",0),("NoLand",1),("NoHeight",2),("NoCell",3),("NoDrain",4),("NoWay",5),("NoRain",6),("Land",7),("Pile",8),("ValueError",9)],[("MOST_SIDE",0),("MOST_HEIGHT",1)],[("rows",0),("columns",1),("grid",2),("sinks",3),("heap",4)],[("__init__",0),("look_at",1),("height",2),("opened",3),("drains",4),("heights",5),("put",6),("least",7),("take",8),("sink",9),("many",10)]⟩
noncomputable def V_09:List (List Str):=([["thing","low","high"],["rows","columns","cell"],["rows","columns","cell","row","column","near"],["rows","columns","found","row","column"],["thing"],["heights","row"],["land","found","goals","pile","cell","here","high","level"],["land","cell","level","seen","row","here","one","high"],["_law_script","_law_k"],["_law_found"],["_law_cell"],["_law_number_here","_law_kind"],["_law_script","_law_k"],["_law_script","_law_size_here","_law_kind","_law_rows","_law_row","_law_numbers"],["_law_script","_law_rows","_law_cell","_law_every","_law_found","_law_row","_law_column","_law_at"],["_law_rows","_law_drains_here","_law_land_here","_law_cell"],["_law_rows","_law_cell","_law_found"],["_law_rows","_law_cell","_law_level","_law_least","_law_one"],["_law_rows","_law_drains_here","_law_level","_law_cell","_law_moved","_law_row","_law_column","_law_least"],["_law_error","_law_word"],["_law_land_here","_law_cell","_law_error"],["_law_rows","_law_level","_law_cell","_law_own","_law_found","_law_k","_law_one","_law_low"],["_law_script","_law_rows","_law_drains_here","_law_land_here","_law_level","_law_last","_law_step","_law_cell","_law_turn","_law_found","_law_some","_law_odd"],["self","heights","row","one"],["self","cell"],["self","cell"],["self","cell"],["self"],["self"],["self"]]:List (List Str)).append ([["self","value","heap","at","above","kept"],["self"],["self","heap","found","last"],["self","heap","at","going","small","below","kept"],["self"],["_law_found","_law_due_here","_law_one","_law_cell"]]:List (List Str))
end Mine.Internal
namespace Mine.Internal.Pure
open PySem Pile
noncomputable def Ho:List Int -> List Int -> Bool
  | [],[]=>false
  | [],_ :: _=>true
  | _ :: _,[]=>false
  | x :: xs,y :: ys=>if x < y then true else if y < x then false else Ho xs ys
theorem Cc {x y:Int} {xs ys:List Int}:Ho (x :: xs) (y :: ys)=if x < y then true else if y < x then false else Ho xs ys:=rfl
theorem Pu:∀ (a b:List Int),Ho a b=true -> Ho b a=false
  | [],[],h=>by cases h
  | [],_ :: _,_=>rfl
  | _ :: _,[],h=>by cases h
  | x :: xs,y :: ys,h=>by
    rw [Cc] at h ⊢
    by_cases q:x < y
    · rw [if_neg (by exact Aj5 q),if_pos q]
    · rw [if_neg q] at h
      by_cases q2:y < x
      · rw [if_pos q2] at h;cases h
      · rw [if_neg q2] at h
        rw [if_neg q2,if_neg q];exact Pu xs ys h
theorem Zb:∀ (a b c:List Int),Ho b a=false -> Ho c b=false -> Ho c a=false
  | [],b,c,h1,h2=>by
    cases c with
    | nil=>rfl
    | cons z zs=>rfl
  | x :: xs,[],c,h1,h2=>by cases h1
  | x :: xs,y :: ys,[],h1,h2=>by cases h2
  | x :: xs,y :: ys,z :: zs,h1,h2=>by
    rw [Cc] at h1 h2 ⊢
    by_cases q1:y < x
    · rw [if_pos q1] at h1;cases h1
    · rw [if_neg q1] at h1
      by_cases q2:z < y
      · rw [if_pos q2] at h2;cases h2
      · rw [if_neg q2] at h2
        rw [if_neg (by exact Ag2 q1 q2)]
        by_cases q3:x < z
        · rw [if_pos q3]
        · rw [if_neg q3]
          rw [if_neg (by exact Ag2 q2 q3)] at h1
          rw [if_neg (by exact Aj6 q1 q3)] at h2
          exact Zb xs ys zs h1 h2
theorem Xe:∀ (a b:List Int),Ho a b=false -> Ho b a=false -> a=b
  | [],[],_,_=>rfl
  | [],_ :: _,h,_=>by cases h
  | _ :: _,[],_,h=>by cases h
  | x :: xs,y :: ys,h1,h2=>by
    rw [Cc] at h1 h2
    by_cases q1:x < y
    · rw [if_pos q1] at h1;cases h1
    · rw [if_neg q1] at h1
      by_cases q2:y < x
      · rw [if_pos q2] at h2;cases h2
      · rw [if_neg q2] at h1 h2
        rw [if_neg q1] at h2
        rw [Xe xs ys h1 h2,show x=y by exact Aj7 q1 q2]
noncomputable def Aid:Nat -> Val -> List Int
  | 0,_=>[]
  | n+1,v=>(match v with
    | .int i=>[i]
    | .tup vs=>vs.flatMap (Aid n)
    | _=>[])
noncomputable def key (v:Val):List Int:=Aid 3 v
noncomputable def klt (a b:Val):Bool:=Ho (key a) (key b)
theorem Ga:Ord klt:=⟨fun a b=>Pu _ _,fun a b c=>Zb _ _ _⟩
theorem Pv (x y:Int):G9 [] (.int x) (.int y)=some (x == y):=rfl
theorem Abs (a b c e:Int):G9 [] (.tup [.int a,.int b]) (.tup [.int c,.int e])=some (a == c && (b == e && true)):=rfl
theorem lt_int (n:Nat) (x y:Int):Ja (n+1) (.int x) (.int y)=some (decide (x < y)):=rfl
theorem Gb (e f:Val -> Val -> Option Bool) (x y:Val) (xs ys:List Val):lts e f (x :: xs) (y :: ys)=(match e x y with | some true=>lts e f xs ys | some false=>f x y | none=>none):=rfl
theorem Ui (n:Nat) (xs ys:List Val):Ja (n+1) (.tup xs) (.tup ys)=lts (G9 []) (Ja n) xs ys:=rfl
structure Dom (D:Val -> Prop):Prop where
  eq:∀ (H:Hp) a b,D a -> D b -> G9 H a b=some (decide (key a=key b))
  lt:∀ a b,D a -> D b -> Ja Fi a b=some (klt a b)
  anti:∀ a b,D a -> D b -> key a=key b -> a=b
noncomputable def DC (v:Val):Prop:=∃ a b c,v=.tup [.int a,.tup [.int b,.int c]]
theorem Zc (a b c:Int):key (.tup [.int a,.tup [.int b,.int c]])=[a,b,c]:=rfl
theorem Abt {a b:Val} (ha:DC a) (hb:DC b) (h:key a=key b):a=b:=by
  refine ex3 ha fun x1 x2 x3 zr3=>?_;subst zr3
  refine ex3 hb fun y1 y2 y3 zr3=>?_;subst zr3
  cases (show [x1,x2,x3]=[y1,y2,y3] from h);rfl
theorem Agk {a b:Val} (ha:DC a) (hb:DC b):Ja Fi a b=some (klt a b):=by
  refine ex3 ha fun x1 x2 x3 zr3=>?_;subst zr3
  refine ex3 hb fun y1 y2 y3 zr3=>?_;subst zr3
  show Ja (5+1) _ _=_
  rw [Ui,Gb,Pv]
  show _=some (Ho [x1,x2,x3] [y1,y2,y3])
  by_cases q1:x1=y1
  · subst q1
    simp only [beq_self_eq_true]
    rw [Gb,Abs]
    by_cases q2:x2=y2
    · subst q2
      by_cases q3:x3=y3
      · subst q3
        simp only [beq_self_eq_true,Bool.and_self]
        simp [lts,Ho]
      · have e3:(x3 == y3)=false:=by simpa using q3
        simp only [beq_self_eq_true,e3,Bool.false_and,Bool.and_false]
        show Ja (4+1) _ _=_
        rw [Ui,Gb,Pv]
        simp only [beq_self_eq_true]
        rw [Gb,Pv,e3]
        show some (decide (x3 < y3))=_
        by_cases q5:x3 < y3
        · simp [Cc,q5]
        · have:y3 < x3:=by exact Afh q5 q3
          simp [Cc,q5,this]
    · have e2:(x2 == y2)=false:=by simpa using q2
      simp only [e2,Bool.false_and]
      show Ja (4+1) _ _=_
      rw [Ui,Gb,Pv,e2]
      show some (decide (x2 < y2))=_
      by_cases q5:x2 < y2
      · simp [Cc,q5]
      · have:y2 < x2:=by exact Afh q5 q2
        simp [Cc,q5,this]
  · have e1:(x1 == y1)=false:=by simpa using q1
    rw [e1]
    show some (decide (x1 < y1))=_
    by_cases q5:x1 < y1
    · simp [Cc,q5]
    · have:y1 < x1:=by exact Afh q5 q1
      simp [Cc,q5,this]
theorem Agl {H:Hp} {a b:Val} (ha:DC a) (hb:DC b):G9 H a b=some (decide (key a=key b)):=by
  refine ex3 ha fun x1 x2 x3 zr3=>?_;subst zr3
  refine ex3 hb fun y1 y2 y3 zr3=>?_;subst zr3
  have:G9 H (.tup [.int x1,.tup [.int x2,.int x3]]) (.tup [.int y1,.tup [.int y2,.int y3]])=some (x1 == y1 && ((x2 == y2 && (x3 == y3 && true)) && true)):=rfl
  rw [this]
  congr 1
  rw [Bool.eq_iff_iff,Zc,Zc];simp [and_assoc]
theorem Ll:Dom DC:=⟨fun _ _ _=>Agl,fun _ _=>Agk,fun _ _=>Abt⟩
section
variable {T:Tab} {Φ:Funs} {Γ:Env'} {H:Hp} {Q:Val -> Hp -> Prop} {E:Nat -> Hp -> Prop} {QS:Env' -> Hp -> Prop} {R:Val -> Hp -> Prop} {ES:Nat -> Env' -> Hp -> Prop}
theorem Jy {i c n:Nat} {fs:List (Nat × Val)} {v:Val} (h:H[i]?=some (.inst c fs)) (hf:fs.lookup n=some v):Wp (Iy (.loc i) n) H Q E=Q v H:=by
  have:Iy (.loc i) n H=.ok v H:=by
    unfold Iy;rw [Db];simp only [h,hf]
  unfold Wp;rw [this]
theorem Ey {l:Nat} {xs:List Val} {k:Int} {v:Val} {Q:Unit -> Hp -> Prop} (h:H[l]?=some (.list xs)) (h0:0 <= k) (h1:k < xs.length):Wp (A3 (.loc l) (.int k) v) H Q E=Q () (H.set l (.list (xs.set k.toNat v))):=by
  have:A3 (.loc l) (.int k) v H=.ok () (H.set l (.list (xs.set k.toNat v))):=by
    unfold A3;simp only [h];exact if_pos ⟨h0,h1⟩
  unfold Wp;rw [this]
theorem Lm {l:Nat} {xs:List Val} (h:H[l]?=some (.list xs)) {k:Int} {v:Val} (h0:0 <= k) (hk:xs[k.toNat]?=some v):Wp (De (.loc l) (.int k)) H Q E=Q v H:=by
  have lt:=(List.getElem?_eq_some_iff.mp hk).1
  have:De (.loc l) (.int k) H=.ok v H:=by
    unfold De;rw [Db]
    simp only [h,Mz k xs.length h0 (by exact o16 h0 lt),Option.bind_some,hk]
  unfold Wp;rw [this]
theorem Hq {c:ME} {body:MSs} (I:Nat -> Env' -> Hp -> Prop) {n:Nat} (hn:n < Nl) (h:I n Γ H)
    (step:∀ n Γ H,I n Γ H -> wpE T Φ c Γ H (fun v H'=>Eg v fun b=>brB b (wpSs T Φ body Γ H' (fun Γ' H''=>∃ m,m < n /\ I m Γ' H'') R NoX) (QS Γ H')) NoE):wpS T Φ (.loop c body) Γ H QS R ES:=by
  have main:∀ (f n:Nat) (Γ:Env') (H:Hp),n < f -> I n Γ H -> WpS (Im (fun Γ=>(Ak T Φ c Γ).bnd C1) (execSs T Φ body) f Γ H) QS R ES:=by
    intro f
    induction f with
    | zero=>intro n Γ H l;exact (Agt l).elim
    | succ f ih =>
      intro n Γ H l hI
      have w:=step n Γ H hI
      rw [<- Bc] at w
      have w':Wp ((Ak T Φ c Γ).bnd C1) H (fun b H'=>brB b (wpSs T Φ body Γ H' (fun Γ' H''=>∃ m,m < n /\ I m Γ' H'') R NoX) (QS Γ H')) NoE:=by
        rw [Az];simp only [Hm];exact w
      refine ex2 w'.get fun b H' zz=>Ac zz fun e q=>?_
      rw [Jd]
      rw [e]
      cases b with
      | false=>exact q
      | true =>
        dsimp only
        have q':wpSs T Φ body Γ H' (fun Γ' H''=>∃ m,m < n /\ I m Γ' H'') R NoX:=q
        rw [<- wpSs_eq] at q'
        cases hb:execSs T Φ body Γ H' with
        | bad=>rw [hb] at q';exact q'.elim
        | exc c' Γ2 H2=>rw [hb] at q';exact q'.elim
        | ret v H2=>rw [hb] at q';exact q'
        | next Γ2 H2 =>
          rw [hb] at q'
          refine ex1 q' fun m zz=>Ac zz fun lm hm=>?_
          exact ih m Γ2 H2 (by exact Ag0 l lm) hm
  exact main Nl n Γ H hn h
end
theorem Uj {Γ:Env'} {i:Nat} {v:Val} {k:Val -> Prop} (h:Γ[i]?=some (some v)):Pi Γ i k=k v:=by rw [Eh,h];rfl
theorem wvr {T:Tab} {Φ:Funs} {H:Hp} {Q:Val -> Hp -> Prop} {E:Nat -> Hp -> Prop} {Γ:Env'} {i:Nat} {v:Val} (h:Γ[i]?=some (some v)):wpE T Φ (.var i) Γ H Q E=Q v H:=Uj h
theorem wcv {T:Tab} {Φ:Funs} {H:Hp} {Q:List Val -> Hp -> Prop} {E:Nat -> Hp -> Prop} {Γ:Env'} {i:Nat} {v:Val} {es:MEs} (h:Γ[i]?=some (some v)):wpEs T Φ (.cons (.var i) es) Γ H Q E=wpEs T Φ es Γ H (fun vs H=>Q (v :: vs) H) E:=Uj h
theorem wsv {T:Tab} {Φ:Funs} {H:Hp} {Q:Val -> Hp -> Prop} {E:Nat -> Hp -> Prop} {Γ:Env'} {i j:Nat} {v w:Val} (h:Γ[i]?=some (some v)) (k:Γ[j]?=some (some w)):wpE T Φ (.sub (.var i) (.var j)) Γ H Q E=Wp (De v w) H Q E:=by rw [A9,wvr h,wvr k]
theorem wbf {T:Tab} {Φ:Funs} {H:Hp} {Q:Val -> Hp -> Prop} {E:Nat -> Hp -> Prop} {Γ:Env'} {f:BF} {i:Nat} {v:Val} (h:Γ[i]?=some (some v)):wpE T Φ (.bf f (.cons (.var i) .nil)) Γ H Q E=Wp (bfV f [v]) H Q E:=by rw [Dq,wcv h,Ax]
theorem wat {T:Tab} {Φ:Funs} {H:Hp} {Q:Val -> Hp -> Prop} {E:Nat -> Hp -> Prop} {Γ:Env'} {i o c n:Nat} {fs:List (Nat × Val)} {v:Val} (h:Γ[i]?=some (some (.loc o))) (f0:H[o]?=some (.inst c fs)) (f1:fs.lookup n=some v):wpE T Φ (.attr (.var i) n) Γ H Q E=Q v H:=by rw [Dp,wvr h,Jy f0 f1]
theorem Aej (k:Nat) (h:0 < k):Int.fdiv ((k:Int) - 1) 2=((par k:Nat):Int):=by
  have:((k:Int) - 1)=((k - 1:Nat):Int):=by exact Aj8 h
  rw [this,Int.fdiv_eq_ediv_of_nonneg _ (by decide)]
  unfold par;exact Aj9
theorem Zd {D:Val -> Prop} (dom:Dom D) {a b:Val} (ha:D a) (hb:D b) {H:Hp} {k:Bool -> Prop}:En (Dl .lt a b H) k=k (klt a b):=Bj (show Dl .lt a b H=some (klt a b) from dom.lt a b ha hb) k
theorem Ln (H:Hp) (l:Nat) (a b:HObj):(H.set l a).set l b=H.set l b:=List.set_set ..
theorem Dr {α β γ:Type} (p:α -> β -> γ -> Prop):∃ q:α -> β -> γ -> Prop,∀ a b c,q a b c↔p a b c:=⟨p,fun _ _ _=>Iff.rfl⟩
inductive UInv (H:Hp) (l:Nat) (x0 x1:Val) (zs:List Val):Nat -> Env' -> Hp -> Prop
  | mk {n:Nat} (ys:List Val) (a b:Option Val) (hp:ys.Perm zs) (hu:Up klt ys n) (hn:n < ys.length):UInv H l x0 x1 zs n [some x0,some x1,some (.loc l),some (.int (n:Nat)),a,b] (H.set l (.list ys))
theorem Abu {T:Tab} {Φ:Funs} {H:Hp} {QS:Env' -> Hp -> Prop} {R:Val -> Hp -> Prop} {l n:Nat} {ys:List Val} {x y x0 x1:Val} {a b:Option Val} (g:H[l]?=some (.list ys)) (hpos:0 < n) (hx:ys[n]?=some x) (hy:ys[par n]?=some y)
    (q:QS [some x0,some x1,some (.loc l),some (.int (par n:Nat)),some (.int (par n:Nat)),some y] (H.set l (.list ((ys.set (par n) x).set n y)))) :
    wpSs T Φ zT9
      [some x0,some x1,some (.loc l),some (.int (n:Nat)),a,b] H QS R NoX:=by
  have ln:=(List.getElem?_eq_some_iff.mp hx).1
  have lp:=(List.getElem?_eq_some_iff.mp hy).1
  have hxn:ys[((n:Nat):Int).toNat]?=some x:=hx
  have hyn:ys[((par n:Nat):Int).toNat]?=some y:=hy
  refine ⟨by decide,?_⟩
  show Wp (De (.loc l) (.int (Int.fdiv ((n:Int) - 1) 2))) H _ _
  rw [Aej n hpos,Lm g (by exact Ni) hyn]
  show Wp (De (.loc l) (.int (n:Int))) H _ _
  rw [Lm g (by exact Ag3 hpos) hxn]
  show Wp (A3 (.loc l) (.int (par n:Int)) x) H _ _
  rw [Ey g (by exact Ni) (by exact Vg lp)]
  show Wp (A3 (.loc l) (.int (n:Int)) y) _ _ _
  rw [Ey (Bo _ g) (by exact Ag3 hpos) (by rw [List.length_set];exact Vg ln),Ln,Int.toNat_natCast,Int.toNat_natCast]
  exact q
theorem Uk (d:Nat) {D:Val -> Prop} (dom:Dom D) {i l:Nat} {v:Val} {xs:List Val} {H:Hp} (hi:H[i]?=some (.inst 8 [(4,.loc l)])) (hl:H[l]?=some (.list xs)) (hD:∀ x∈xs,D x) (hv:D v) (hp:Bl klt xs) (hn:xs.length < 1000) :
    Wp (Ai T_09 (d+1) 30 [.loc i,v]) H (fun r H'=>r=.none /\ ∃ ys,H'=H.set l (.list ys) /\ ys.Perm (xs++[v]) /\ Bl klt ys) NoE:=by
  have hlid:lid=16777216:=rfl
  have hDz:∀ x∈xs++[v],D x:=fun x hx=>by
    rcases List.mem_append.mp hx with h | h
    · exact hD x h
    · cases List.mem_singleton.mp h;exact hv
  have up:=Up.put hp v
  rw [As (g:=Y7) rfl rfl]
  refine Au (fun w K=>w=.loc l /\ H=K) ?_ ?_
  · show Wp (Iy (.loc i) 4) H _ _
    rw [Jy hi (show List.lookup 4 [(4,Val.loc l)]=some (.loc l) from rfl)]
    exact ⟨rfl,rfl⟩
  rintro _ _ ⟨rfl,rfl⟩
  refine Iv (fun K=>K=H.set l (.list (xs++[v]))) ?_ ?_
  · refine Cw rfl hl ?_
    exact ⟨xs,hl,by exact Acz hn hlid,rfl⟩
  rintro _ rfl
  refine Au (fun w K=>w=.int (xs.length:Nat) /\ H.set l (.list (xs++[v]))=K) ?_ ?_
  · show Wp (bfV .len [.loc l]) _ _ _
    rw [Ar (Bo _ hl),List.length_append]
    exact ⟨congrArg Val.int (by show ((xs.length+1:Nat):Int) - 1=_;exact Aka),rfl⟩
  rintro _ _ ⟨rfl,rfl⟩
  obtain ⟨I,hI⟩:=Dr (UInv H l (.loc i) v (xs++[v]))
  refine Hq I (n:=xs.length) (Nat.lt_trans hn (by decide)) ((hI _ _ _).mpr (.mk (xs++[v]) _ _ (List.Perm.refl _) up (by simp))) ?_
  clear hi hp hv hD up
  intro n Γ K h
  obtain ⟨ys,a,b,hperm,hup,hlt⟩:=(hI _ _ _).mp h
  have g:(H.set l (.list ys))[l]?=some (.list ys):=Bo _ hl
  refine Fz (fun hpos=>?_) (fun hz=>?_)
  · have hpos':0 < n:=by exact Akb hpos
    have hpl:=F9 hpos'
    obtain ⟨x,hx⟩:∃ x,ys[n]?=some x:=⟨_,List.getElem?_eq_getElem hlt⟩
    obtain ⟨y,hy⟩:∃ y,ys[par n]?=some y:=⟨_,List.getElem?_eq_getElem (by exact Ag4 hlt hpl)⟩
    have hDy:∀ x∈ys,D x:=fun x hx=>hDz x (hperm.mem_iff.mp hx)
    show Wp (De (.loc l) (.int (n:Int))) _ _ _
    rw [Lm g (by exact Akc hpos) (show ys[((n:Nat):Int).toNat]?=some x from hx)]
    refine ⟨by decide,?_⟩
    show Wp (De (.loc l) (.int (Int.fdiv ((n:Int) - 1) 2))) _ _ _
    rw [Aej n hpos',Lm g (by exact Ni) (show ys[((par n:Nat):Int).toNat]?=some y from hy)]
    show En (Dl .lt x y _) _
    rw [Zd dom (hDy x (zF hx)) (hDy y (zF hy))]
    refine B8 (fun hlt'=>?_) (fun hge=>?_)
    · refine Abu g hpos' hx hy ⟨par n,hpl,(hI _ _ _).mpr ?_⟩
      rw [Ln]
      exact .mk (Xd ys (par n) n y x) _ _ ((M0 hy hx).trans hperm) (Up.step Ga hpos' hup hx hy hlt') (by rw [Lj];exact Ag4 hlt hpl)
    · exact ⟨rfl,ys,rfl,hperm,hup.done (.inr fun x' y' hx' hy'=>by rw [hx] at hx';rw [hy] at hy';cases hx';cases hy';exact hge)⟩
  · exact ⟨rfl,ys,rfl,hperm,hup.done (.inl (by exact Akd hz))⟩
structure Only (l:Nat) (H H':Hp):Prop where
  keep:∀ m o,m≠l -> H[m]?=some o -> H'[m]?=some o
  len:H.length <= H'.length
theorem Only.refl (l:Nat) (H:Hp):Only l H H:=⟨fun _ _ _ h=>h,zI _⟩
theorem Only.trans {l:Nat} {H H1 H2:Hp} (a:Only l H H1) (b:Only l H1 H2):Only l H H2:=⟨fun m o n h=>b.keep m o n (a.keep m o n h),zC a.len b.len⟩
theorem Only.set {l:Nat} {H H':Hp} (a:Only l H H') (o:HObj):Only l H (H'.set l o):=⟨fun m ob n h=>by rw [List.getElem?_set_ne (fun q=>n q.symm)];exact a.keep m ob n h,by rw [List.length_set];exact a.len⟩
theorem Only.new {l:Nat} {H H':Hp} (a:Only l H H') (o:HObj):Only l H (H'++[o]):=⟨fun m ob n h=>by have:=a.keep m ob n h;rw [List.getElem?_append_left (Bw this)];exact this,by rw [List.length_append];have:=a.len;exact Ake this⟩
structure Small (ys:List Val) (k n:Nat) (m:Nat) (x:Val):Prop where
  at':ys[m]?=some x
  one:m=k \/ (0 < m /\ par m=k /\ ∀ y,ys[k]?=some y -> klt x y=true)
  all:∀ c,2 * k+1 <= c -> c < 2 * k+1+n -> ∀ z,ys[c]?=some z -> klt z x=false
theorem Small.start {ys:List Val} {k:Nat} {x:Val} (h:ys[k]?=some x):Small ys k 0 k x:=⟨h,.inl rfl,fun c h1 h2=>by exact (Akf h1 h2).elim⟩
theorem Small.stay {ys:List Val} {k n m:Nat} {x:Val} (h:Small ys k n m x) (hc:∀ z,ys[2 * k+1+n]?=some z -> klt z x=false):Small ys k (n+1) m x :=
  ⟨h.at',h.one,fun c h1 h2 z hz=>by
    by_cases q:c=2 * k+1+n
    · subst q;exact hc z hz
    · exact h.all c h1 (by exact Ag5 h2 q) z hz⟩
theorem Small.move {ys:List Val} {k n m:Nat} {x z:Val} (hn:n < 2) (h:Small ys k n m x) (hz:ys[2 * k+1+n]?=some z) (l:klt z x=true):Small ys k (n+1) (2 * k+1+n) z:=by
  refine ⟨hz,.inr ⟨by exact Akg hn,by unfold par;exact Akh hn,fun y hy=>?_⟩,fun c h1 h2 w hw=>?_⟩
  · rcases h.one with e | ⟨_,_,e⟩
    · have:=h.at';rw [e,hy] at this;cases this;exact l
    · cases q:klt z y with
      | true=>rfl
      | false =>
        have:=Ga.tr y z x q (Ga.asym _ _ l)
        rw [e y hy] at this;cases this
  · by_cases q:c=2 * k+1+n
    · subst q;rw [hz] at hw;cases hw;exact Ga.irr _
    · exact Ga.tr z x w (Ga.asym _ _ l) (h.all c h1 (by exact Ag5 h2 q) w hw)
theorem Small.children {ys:List Val} {k m:Nat} {x:Val} (h:Small ys k 2 m x):∀ c,0 < c -> par c=k -> ∀ z,ys[c]?=some z -> klt z x=false:=fun c hc e z hz=>h.all c (by unfold par at e;exact Aki e hc) (by unfold par at e;exact Akj e hc) z hz
section
variable {Φ:Funs} {H:Hp} {QS:Env' -> Hp -> Prop} {R:Val -> Hp -> Prop} {D:Val -> Prop} {i l k:Nat} {ys xs:List Val}
theorem Aek {j m:Nat} {xm:Val} {x0 x2 x3 x6:Option Val} (dom:Dom D) (hg:H[l]?=some (.list ys)) (hD:∀ x∈ys,D x) (hj:j < 2) (hsm:Small ys k j m xm)
    (q:∀ m x,Small ys k (j+1) m x -> QS [x0,some (.loc l),x2,x3,some (.int (m:Nat)),some (.int ((2 * k+1+j:Nat):Int)),x6] H) :
    wpSs T_09 Φ zT14
      [x0,some (.loc l),x2,x3,some (.int (m:Nat)),some (.int ((2 * k+1+j:Nat):Int)),x6] H QS R NoX:=by
  simp only [↓Ag,↓Bb,↓B1,↓Bu,↓Ei,↓A2,↓Dq,↓Ah,↓Ax,↓A0,↓A9,↓Dj,↓Aj,↓Aq]
  rw [Ar hg,J7]
  refine Fz (fun hlt=>?_) (fun hge=>?_)
  · obtain ⟨z,hz⟩:∃ z,ys[2 * k+1+j]?=some z:=⟨_,List.getElem?_eq_getElem (by exact Akk hlt)⟩
    rw [Lm hg (v:=z) (by exact Akl hj) (by rw [Int.toNat_natCast];exact hz),Lm hg (v:=xm) (by exact Ni) (by rw [Int.toNat_natCast];exact hsm.at'),Zd dom (hD z (zF hz)) (hD xm (zF hsm.at'))]
    refine B8 (fun h1=>?_) (fun h1=>?_)
    · exact q _ _ (hsm.move hj hz h1)
    · exact q _ _ (hsm.stay fun z' hz'=>by rw [hz] at hz';cases hz';exact h1)
  · exact q _ _ (hsm.stay fun z' hz'=>by have:=(List.getElem?_eq_some_iff.mp hz').1;exact (Akm this hge).elim)
theorem Abv {xk:Val} {x0 x3 x5 x6:Option Val} (dom:Dom D) (hg:H[l]?=some (.list ys)) (hD:∀ x∈ys,D x) (hxk:ys[k]?=some xk)
    (q:∀ m x b',Small ys k 2 m x -> QS [x0,some (.loc l),some (.int (k:Nat)),x3,some (.int (m:Nat)),b',x6] (H++[.list [.int (2 * (k:Int)+1),.int (2 * (k:Int)+2)]])) :
    wpS T_09 Φ (.each 5 (.list (.cons (.bin .add (.bin .mul (.int 2) (.var 2)) (.int 1)) (.cons (.bin .add (.bin .mul (.int 2) (.var 2)) (.int 2)) .nil))) zT14) [x0,some (.loc l),some (.int (k:Nat)),x3,some (.int (k:Nat)),x5,x6] H QS R NoX:=by
  apply C5
  simp only [↓E9,↓Ah,↓Ax,↓Cf,↓A8,↓A0,↓Dj,↓Aj,↓Aq,↓F6,↓Iu]
  refine ⟨rfl,rfl,?_⟩
  rw [Bj (Bx (Al _ _))]
  have g2:(H++[.list [.int (2 * (k:Int)+1),.int (2 * (k:Int)+2)]])[l]?=some (.list ys):=(Ext.refl H |>.new _).get hg
  have gn:=Al H (.list [.int (2 * (k:Int)+1),.int (2 * (k:Int)+2)])
  generalize (H++[HObj.list [Val.int (2 * (k:Int)+1),Val.int (2 * (k:Int)+2)]])=H1 at *
  obtain ⟨I,hI⟩:=Dr (fun (j:Nat) (Γ:Env') (H2:Hp)=>H2=H1 /\ ∃ m x b',Γ=[x0,some (.loc l),some (.int (k:Nat)),x3,some (.int (m:Nat)),b',x6] /\ Small ys k j m x)
  refine B9 I ((hI _ _ _).mpr ⟨rfl,k,xk,x5,rfl,Small.start hxk⟩) ?_ ?_ ?_
  · intro Γ H2 h
    refine Ac ((hI _ _ _).mp h) fun zr0 zz=>ex3 zz fun m x b' zz=>Ac zz fun zr4 hsm=>?_;subst zr0;subst zr4
    exact q m x b' hsm
  · intro j Γ H2 _ h
    obtain ⟨rfl,_⟩:=(hI _ _ _).mp h
    exact B4 gn
  · clear q
    intro j x Γ H2 hx h
    refine Ac ((hI _ _ _).mp h) fun zr0 zz=>ex3 zz fun m xm b' zz=>Ac zz fun zr4 hsm=>?_;subst zr0;subst zr4
    have hj:j < 2 /\ x=.int ((2 * k+1+j:Nat):Int):=by
      match j,hx with
      | 0,hx=>cases hx;exact ⟨by decide,congrArg Val.int (by exact Akn)⟩
      | 1,hx=>cases hx;exact ⟨by decide,congrArg Val.int (by exact Ako)⟩
    obtain ⟨hj2,rfl⟩:=hj
    exact ⟨_,rfl,Aek dom g2 hD hj2 hsm fun m x h=>(hI _ _ _).mpr ⟨rfl,m,x,_,rfl,h⟩⟩
theorem Abw {m:Nat} {x xk:Val} {x0 x5 x6:Option Val} (hg:H[l]?=some (.list ys)) (hx:ys[m]?=some x) (hxk:ys[k]?=some xk)
    (q:QS [x0,some (.loc l),some (.int (m:Nat)),some (.bool (!decide ((m:Int)=(k:Int)))),some (.int (m:Nat)),x5,some xk] (H.set l (.list ((ys.set k x).set m xk)))) :
    wpSs T_09 Φ zT11
      [x0,some (.loc l),some (.int (k:Nat)),some (.bool true),some (.int (m:Nat)),x5,x6] H QS R NoX:=by
  have lm:=(List.getElem?_eq_some_iff.mp hx).1
  have lk:=(List.getElem?_eq_some_iff.mp hxk).1
  have hx':ys[((m:Nat):Int).toNat]?=some x:=hx
  have hxk':ys[((k:Nat):Int).toNat]?=some xk:=hxk
  simp only [↓Dc,↓F5,↓A8,↓Pk,↓wp_glob,↓A0,↓Cf,↓C8,↓Ei,↓Eo,↓A2,↓H7,↓A9,↓Lh,↓Bd,↓Dw,↓E9,↓H8,↓A1,↓Dq,↓Q3,↓Cl,↓Ax,↓Ah,↓Dp,↓B0,↓Pl,↓B1,↓Ag,↓Hn,↓Bu,↓Bv,↓Bb,↓Ju,↓Fa,↓Bk,↓F6,↓My,↓Iu,↓H9,↓Jv,↓Gg,↓B2,↓D2,↓Od,↓Q4,↓Oe,↓T0,↓J7,↓Q5,↓T3,↓T4,↓Dh,↓B3,↓Dd,↓Ca,↓Ew,↓D8,↓Ia,↓Gz,↓G0,↓F7,↓G4,↓G5,↓G6,↓Ib,↓Ic,↓Ex,↓Id,↓Fb,↓Fc,↓Of,↓Aj,↓Dj,↓Tv,↓Aq,↓Ad,↓Ck,↓Ce,↓C4,↓E8,↓Mw,List.map_cons,List.map_nil,List.cons_append,List.nil_append,List.set_cons_zero,List.set_cons_succ,List.replicate_succ,List.replicate_zero,Bool.not_true,Bool.not_false,and_true,true_and,and_self]
  rw [Lm hg (by exact Ni) hxk',Lm hg (by exact Ni) hx',Ey hg (by exact Ni) (by exact Vg lk),Ey (Bo _ hg) (by exact Ni) (by rw [List.length_set];exact Vg lm),Ln,Int.toNat_natCast,Int.toNat_natCast]
  exact q
inductive SInv (H:Hp) (i l:Nat) (xs:List Val):Nat -> Env' -> Hp -> Prop
  | go {n:Nat} {K:Hp} (ys:List Val) (k:Nat) (a b c:Option Val) (ho:Only l H K) (hg:K[l]?=some (.list ys)) (hp:ys.Perm xs) (hd:Down klt ys k) (hk:k < ys.length) (hn:n=ys.length - k):SInv H i l xs n [some (.loc i),some (.loc l),some (.int (k:Nat)),some (.bool true),a,b,c] K
  | stop {n:Nat} {K:Hp} (ys:List Val) (k:Nat) (a b c:Option Val) (ho:Only l H K) (hg:K[l]?=some (.list ys)) (hp:ys.Perm xs) (pile:Bl klt ys):SInv H i l xs n [some (.loc i),some (.loc l),some (.int (k:Nat)),some (.bool false),a,b,c] K
theorem Xf (d:Nat) (dom:Dom D) (hil:i≠l) (hi:H[i]?=some (.inst 8 [(4,.loc l)])) (hl:H[l]?=some (.list xs)) (hD:∀ x∈xs,D x) (hp:Down klt xs 0) (h0:0 < xs.length) (hn:xs.length < 1000) :
    Wp (Ai T_09 (d+1) 33 [.loc i]) H (fun r H'=>r=.none /\ Only l H H' /\ ∃ ys,H'[l]?=some (.list ys) /\ ys.Perm xs /\ Bl klt ys) NoE:=by
  rw [As (g:=Y9) rfl rfl]
  refine Au (fun w K=>w=.loc l /\ H=K) ?_ ?_
  · show Wp (Iy (.loc i) 4) H _ _
    rw [Jy hi (show List.lookup 4 [(4,Val.loc l)]=some (.loc l) from rfl)]
    exact ⟨rfl,rfl⟩
  rintro _ _ ⟨rfl,rfl⟩
  refine Au (fun w K=>w=.int (0:Nat) /\ H=K) ⟨rfl,rfl⟩ ?_
  rintro _ _ ⟨rfl,rfl⟩
  refine Au (fun w K=>w=.bool true /\ H=K) ⟨rfl,rfl⟩ ?_
  rintro _ _ ⟨rfl,rfl⟩
  obtain ⟨I,hI⟩:=Dr (SInv H i l xs)
  refine D9 (fun Γ K=>Only l H K /\ ∃ ys,K[l]?=some (.list ys) /\ ys.Perm xs /\ Bl klt ys) ?_ (fun Γ K h=>⟨rfl,h⟩)
  refine Hq I (n:=xs.length) (Nat.lt_trans hn (by decide)) ((hI _ _ _).mpr (.go xs 0 _ _ _ (Only.refl _ _) hl (List.Perm.refl _) hp h0 rfl)) ?_
  clear hi hp hl
  intro n Γ K h
  rcases (hI _ _ _).mp h with ⟨ys,k,a,b,c,ho,hg,hperm,hdown,hk,hnn⟩ | ⟨ys,k,a,b,c,ho,hg,hperm,hpile⟩
  · have hDy:∀ x∈ys,D x:=fun x hx=>hD x (hperm.mem_iff.mp hx)
    obtain ⟨xk,hxk⟩:∃ x,ys[k]?=some x:=⟨_,List.getElem?_eq_getElem hk⟩
    refine Au (fun w H2=>w=.int (k:Nat) /\ K=H2) ⟨rfl,rfl⟩ ?_
    rintro _ _ ⟨rfl,rfl⟩
    refine Abv dom hg hDy hxk fun m x b' hsm=>?_
    have hg2:=(Ext.refl K |>.new (.list [.int (2 * (k:Int)+1),.int (2 * (k:Int)+2)])).get hg
    have ho2:=ho.new (.list [.int (2 * (k:Int)+1),.int (2 * (k:Int)+2)])
    refine Abw hg2 hsm.at' hxk ?_
    have g3:∀ zs,(((K++[HObj.list [Val.int (2 * (k:Int)+1),Val.int (2 * (k:Int)+2)]])).set l (.list zs))[l]?=some (.list zs):=fun zs=>Bo _ hg2
    rcases hsm.one with rfl | ⟨m0,pm,hmk⟩
    · have exk:x=xk:=Option.some.inj (hsm.at'.symm.trans hxk)
      subst exk
      have same:(ys.set m x).set m x=ys:=by
        rw [List.set_set]
        apply List.ext_getElem?
        intro q
        by_cases e:m=q
        · subst e;rw [List.getElem?_set_self hk,hxk]
        · rw [List.getElem?_set_ne e]
      rw [same,show decide ((m:Int)=(m:Int))=true by simp]
      exact ⟨0,by exact Akp hk hnn,(hI _ _ _).mpr (.stop ys m _ _ _ (ho2.set _) (g3 _) hperm (hdown.done fun c hc e a b ha hb=>by rw [e,hxk] at hb;cases hb;exact hsm.children c hc e a ha))⟩
    · have pk:=F9 m0
      have lm:=(List.getElem?_eq_some_iff.mp hsm.at').1
      rw [show decide ((m:Int)=(k:Int))=false by simpa using fun q:(m:Int)=k=>by exact Akq q pk pm]
      exact ⟨ys.length - m,by exact Akr hk pk lm hnn pm,(hI _ _ _).mpr (.go (Xd ys k m xk x) m _ _ _ (ho2.set _) (g3 _) ((M0 hxk hsm.at').trans hperm) (Down.step Ga hdown m0 pm hxk hsm.at' (hmk xk hxk) hsm.children) (by rw [Lj];exact lm) (by rw [Lj]))⟩
  · exact ⟨ho,ys,hg,hperm,hpile⟩
end
theorem Jz {T:Tab} {H:Hp} {i c m k:Nat} {fs:List (Nat × Val)} {Q:Nat -> Hp -> Prop} {E:Nat -> Hp -> Prop} (h:H[i]?=some (.inst c fs)) (hk:T.meth c m=some k):Wp (C2 T (.loc i) m) H Q E=Q k H:=by
  have:C2 T (.loc i) m H=.ok k H:=by
    unfold C2;rw [Db];simp only [h,hk]
  unfold Wp;rw [this]
theorem Ul {h:List Val} (p:Bl klt h):Bl klt h.dropLast:=by
  intro j hj x y hx hy
  have get:∀ (q:Nat) (z:Val),h.dropLast[q]?=some z -> h[q]?=some z:=fun q z hz=>by
    have lq:=(List.getElem?_eq_some_iff.mp hz).1
    rw [List.getElem?_dropLast,if_pos (by simpa using lq)] at hz
    exact hz
  exact p j hj x y (get _ _ hx) (get _ _ hy)
theorem Um (m:Val) (t:List Val) (z:Val) (h:t.getLast?=some z):(((m :: t).dropLast).set 0 z).Perm t:=by
  cases t with
  | nil=>cases h
  | cons a t' =>
    have e:(m :: a :: t').dropLast=m :: (a :: t').dropLast:=rfl
    rw [e]
    show (z :: (a :: t').dropLast).Perm (a :: t')
    have e2:(a :: t')=(a :: t').dropLast++[z]:=by
      rw [List.getLast?_eq_some_getLast (by simp)] at h
      cases h
      exact (List.dropLast_concat_getLast (by simp)).symm
    rw [e2,List.dropLast_concat]
    exact (List.perm_append_singleton z _).symm
theorem Xg (d:Nat) {D:Val -> Prop} (dom:Dom D) {i l:Nat} {xs:List Val} {H:Hp} (hil:i≠l) (hi:H[i]?=some (.inst 8 [(4,.loc l)])) (hl:H[l]?=some (.list xs)) (hD:∀ x∈xs,D x) (hp:Bl klt xs) (hn:xs.length < 1000) (h0:xs≠[]) :
    Wp (Ai T_09 (d+2) 32 [.loc i]) H (fun r H'=>∃ t ys,xs=r :: t /\ Only l H H' /\ H'[l]?=some (.list ys) /\ ys.Perm t /\ Bl klt ys) NoE:=by
  refine ex2 (List.exists_cons_of_ne_nil h0) fun m t zr2=>?_;subst zr2
  rw [As (g:=Y8) rfl rfl]
  refine Au (fun w K=>w=.loc l /\ H=K) ?_ ?_
  · show Wp (Iy (.loc i) 4) H _ _
    rw [Jy hi (show List.lookup 4 [(4,Val.loc l)]=some (.loc l) from rfl)]
    exact ⟨rfl,rfl⟩
  rintro _ _ ⟨rfl,rfl⟩
  refine Iw (fun K=>H=K) ?_ ?_
  · show Wp (bfV .len [.loc l]) H _ _
    rw [Ar hl]
    rw [A8,Q4]
    exact ⟨congrArg Val.bool (decide_eq_false (by rw [List.length_cons];exact Aks)),rfl⟩
  rintro _ rfl
  refine Au (fun w K=>m=w /\ H=K) ?_ ?_
  · show Wp (De (.loc l) (.int 0)) H _ _
    rw [Lm hl (v:=m) (k:=0) (by decide) rfl]
    exact ⟨rfl,rfl⟩
  rintro _ _ ⟨rfl,rfl⟩
  obtain ⟨z,hz⟩:∃ z,(m :: t).getLast?=some z:=⟨_,List.getLast?_eq_some_getLast (by simp)⟩
  refine Au (fun w K=>z=w /\ K=H.set l (.list (m :: t).dropLast)) ?_ ?_
  · show En (Go .pop (.loc l) H) _
    rw [Bj (Pq hl)]
    exact Yx hl hz ⟨rfl,rfl⟩
  rintro _ H1 ⟨hr2,e1⟩;refine hr2▸?_
  have g1:H1[l]?=some (.list (m :: t).dropLast):=by rw [e1];exact Bo _ hl
  have o1:Only l H H1:=by rw [e1];exact (Only.refl l H).set _
  clear e1 hl
  show Wp (bfV .len [.loc l]) H1 _ _
  rw [Ar g1]
  cases t with
  | nil=>exact ⟨[],[],rfl,o1,g1,List.Perm.refl _,fun j hj x y hx=>by simp at hx⟩
  | cons a t' =>
    have hzl:(a :: t').getLast?=some z:=by simpa using hz
    have perm:=Um m (a :: t') z hzl
    have len1:((m :: a :: t').dropLast).length=t'.length+1:=by simp
    have i2:(List.set H1 l (.list (((m :: a :: t').dropLast).set 0 z)))[i]?=some (.inst 8 [(4,.loc l)]):=(o1.set _).keep i _ hil hi
    rw [A8,Q5,len1]
    show brB (decide (0 < ((t'.length+1:Nat):Int))) _ _
    rw [Cd (by exact Ag6)]
    show Wp (A3 (.loc l) (.int 0) z) H1 _ _
    rw [Ey g1 (by decide) (by rw [len1];exact Ag6)]
    show Wp (C2 T_09 (.loc i) 9) (H1.set l (.list (((m :: a :: t').dropLast).set 0 z))) _ _
    rw [Jz i2 (show T_09.meth 8 9=some 33 from rfl)]
    refine (Xf d dom hil i2 (Bo _ g1) (fun x hx=>hD x (.tail _ (perm.mem_iff.mp hx))) (Down.top (Ul hp) z) (by rw [List.length_set,len1];exact Akt) (by rw [List.length_set];simp at hn;exact Aku hn len1)).then ?_
    intro _ H3 zz
    refine An zz fun zr0 o3 zz=>ex1 zz fun ys zz=>An zz fun g3 p3 pile3=>?_;subst zr0
    exact ⟨a :: t',ys,rfl,(o1.set _).trans o3,g3,p3.trans perm,pile3⟩
theorem Xh (d:Nat) {i l:Nat} {xs:List Val} {H:Hp} (hi:H[i]?=some (.inst 8 [(4,.loc l)])) (hl:H[l]?=some (.list xs)) :
    Wp (Ai T_09 (d+1) 34 [.loc i]) H (fun r H'=>H'=H /\ r=.int (xs.length:Nat)) NoE:=by
  rw [As (g:=Uh) rfl rfl,Uh]
  simp only [↓Dc,↓F5,↓A8,↓Pk,↓wp_glob,↓A0,↓Cf,↓C8,↓Ei,↓Eo,↓A2,↓H7,↓A9,↓Lh,↓Bd,↓Dw,↓E9,↓H8,↓A1,↓Dq,↓Q3,↓Cl,↓Ax,↓Ah,↓Dp,↓B0,↓Pl,↓B1,↓Ag,↓Hn,↓Bu,↓Bv,↓Bb,↓Ju,↓Fa,↓Bk,↓F6,↓My,↓Iu,↓H9,↓Jv,↓Gg,↓B2,↓D2,↓Od,↓Q4,↓Oe,↓T0,↓J7,↓Q5,↓T3,↓T4,↓Dh,↓B3,↓Dd,↓Ca,↓Ew,↓D8,↓Ia,↓Gz,↓G0,↓F7,↓G4,↓G5,↓G6,↓Ib,↓Ic,↓Ex,↓Id,↓Fb,↓Fc,↓Of,↓Aj,↓Dj,↓Tv,↓Aq,↓Ad,↓Ck,↓Ce,↓C4,↓E8,↓Mw,List.map_cons,List.map_nil,List.cons_append,List.nil_append,List.set_cons_zero,List.set_cons_succ,List.replicate_succ,List.replicate_zero,Bool.not_true,Bool.not_false,and_true,true_and,and_self,Jy hi (show List.lookup 4 [(4,Val.loc l)]=some (.loc l) from rfl),Ar hl]
theorem Abx (d:Nat) (H:Hp) {Q:Val -> Hp -> Prop} {E:Nat -> Hp -> Prop} (q:Q (.loc H.length) (H++[.inst 8 [(4,.loc (H.length+1))],.list []])) :
    Wp (P6 T_09 (Ai T_09 (d+1)) 8 []) H Q E:=by
  have e:P6 T_09 (Ai T_09 (d+1)) 8 [] H=.ok (.loc H.length) (H++[.inst 8 [(4,.loc (H.length+1))],.list []]):=by
    unfold P6
    show M.bnd _ _ _=_
    rw [Dt (show M.alloc (.inst 8 []) H=.ok (.loc H.length) (H++[.inst 8 []]) from rfl)]
    have c:Ai T_09 (d+1) 29 [.loc H.length] (H++[.inst 8 []])=.ok .none (H++[.inst 8 [(4,.loc (H.length+1))],.list []]):=by
      have w:Wp (Ai T_09 (d+1) 29 [.loc H.length]) (H++[.inst 8 []]) (fun r H'=>r=.none /\ H'=H++[.inst 8 [(4,.loc (H.length+1))],.list []]) NoE:=by
        rw [As (g:=Ug) rfl rfl,Ug]
        simp only [↓Dc,↓F5,↓A8,↓Pk,↓wp_glob,↓A0,↓Cf,↓C8,↓Ei,↓Eo,↓A2,↓H7,↓A9,↓Lh,↓Bd,↓Dw,↓E9,↓H8,↓A1,↓Dq,↓Q3,↓Cl,↓Ax,↓Ah,↓Dp,↓B0,↓Pl,↓B1,↓Ag,↓Hn,↓Bu,↓Bv,↓Bb,↓Ju,↓Fa,↓Bk,↓F6,↓My,↓Iu,↓H9,↓Jv,↓Gg,↓B2,↓D2,↓Od,↓Q4,↓Oe,↓T0,↓J7,↓Q5,↓T3,↓T4,↓Dh,↓B3,↓Dd,↓Ca,↓Ew,↓D8,↓Ia,↓Gz,↓G0,↓F7,↓G4,↓G5,↓G6,↓Ib,↓Ic,↓Ex,↓Id,↓Fb,↓Fc,↓Of,↓Aj,↓Dj,↓Tv,↓Aq,↓Ad,↓Ck,↓Ce,↓C4,↓E8,↓Mw,List.map_cons,List.map_nil,List.cons_append,List.nil_append,List.set_cons_zero,List.set_cons_succ,List.replicate_succ,List.replicate_zero,Bool.not_true,Bool.not_false,and_true,true_and,and_self]
        have g:((H++[HObj.inst 8 []])++[HObj.list []])[H.length]?=some (.inst 8 []):=((Ext.refl _).new _).get (Al _ _)
        have st:Bp (.loc H.length) 4 (.loc (H++[HObj.inst 8 []]).length) ((H++[HObj.inst 8 []])++[HObj.list []])=.ok () (((H++[HObj.inst 8 []])++[HObj.list []]).set H.length (HObj.inst 8 [(4,.loc (H++[HObj.inst 8 []]).length)])):=by
          unfold Bp;simp only [g];rfl
        refine Wp.of_eq st ?_
        simp
      refine Af fun G kG=>?_
      refine ex2 w.get fun r H' zz=>An zz fun e1 zr3 zr4=>?_;subst zr3;subst zr4
      refine kG ?_
      exact e1
    rw [Dt c]
    rfl
  exact Wp.of_eq e q
end Mine.Internal.Pure
namespace Mine.Internal.Pure
open PySem
section
variable {H:Hp} {Q:Val -> Hp -> Prop} {E:Nat -> Hp -> Prop} {d:Nat}
noncomputable def HV (v:Val):Prop:=v=.none \/ ∃ i:Int,v=.int i /\ 0 <= i /\ i <= 1000000000
theorem Aby:T_09.globs[0]?=some (.int 30):=rfl
theorem Un:T_09.globs[1]?=some (.int 1000000000):=rfl
theorem Hr {x lo hi:Int} (h1:lo <= x) (h2:x <= hi):Wp (Ai T_09 (d+1) 0 [.int x,.int lo,.int hi]) H Q E=Q (.bool true) H:=by
  rw [As (g:=Q6) rfl rfl,Q6]
  simp only [List.map_cons,List.map_nil,List.replicate_zero,List.cons_append,List.nil_append,↓Ag,↓Bb,↓Eo,↓C8,↓Cl,↓A0,↓Aj,↓Ew,↓Ad,↓E8,↓Ce,↓D8,↓C4,↓B1,↓Bv,↓Bd,↓H7,↓Aq,↓T3,decide_eq_true h1,decide_eq_true h2]
theorem Pw {r c i j:Int} (h1:0 <= i) (h2:i < r) (h3:0 <= j) (h4:j < c):Wp (Ai T_09 (d+2) 1 [.int r,.int c,.tup [.int i,.int j]]) H Q E=Q (.bool true) H:=by
  rw [As (g:=Oi) rfl rfl,Oi]
  simp only [List.map_cons,List.map_nil,List.replicate_zero,List.cons_append,List.nil_append,↓Ag,↓Bb,↓Eo,↓C8,↓Cl,↓A0,↓Aq,↓Aj,↓Ex,↓Ad,↓E8,↓Ce,↓A2,↓Dq,↓Ah,↓Ax,↓D2,↓A8,↓Oe,↓B1,↓Bv,↓Bd,↓Ei,↓A1,↓A9,↓Fb,↓Cf,↓My,↓Fc,↓F5]
  rw [Hr h1 (by exact Ag7 h2),Ad,Ce,Hr h3 (by exact Ag7 h4)]
  rfl
theorem Q7 {v:Val} (h:HV v):Wp (Ai T_09 (d+2) 4 [v]) H Q E=Q (.bool true) H:=by
  rw [As (g:=Abp) rfl rfl,Abp]
  rcases h with rfl | ⟨i,rfl,h1,h2⟩
  · simp only [List.map_cons,List.map_nil,List.replicate_zero,List.cons_append,List.nil_append,↓Ag,↓Bv,↓Bd,↓Eo,↓A2,↓A0,↓Aj,↓Dc,↓Dh,↓Ad,↓Ce]
  · simp only [List.map_cons,List.map_nil,List.replicate_zero,List.cons_append,List.nil_append,↓Ag,↓Bv,↓Bd,↓Eo,↓A2,↓A0,↓Aj,↓Dc,↓B3,↓Ad,↓C4,↓A1,↓Ah,↓A8,↓wp_glob,Un,↓Ax,↓Ck]
    exact Hr h1 h2
end
noncomputable def J0 (ns:List Int) (k:Nat):Int:=ns.getD k 0
section
variable {H:Hp} {Q:Val -> Hp -> Prop} {E:Nat -> Hp -> Prop} {d:Nat}
theorem M3 {ns:List Int} {k:Nat} (h:k < ns.length):Wp (De (.script ns) (.int (k:Int))) H Q E=Q (.int (ns.getD k 0)) H:=by
  have e:ns[k]?=some (ns.getD k 0):=by rw [List.getD_eq_getElem?_getD,List.getElem?_eq_getElem h];rfl
  rw [Q2 e];rfl
theorem Gh (ns:List Int) (k:Nat):Wp (Ai T_09 (d+1) 8 [.script ns,.int (k:Int)]) H Q E=Q (.int (J0 ns k)) H:=by
  rw [As (g:=Abr) rfl rfl,Abr]
  simp only [List.map_cons,List.map_nil,List.replicate_zero,List.cons_append,List.nil_append,↓Ag,↓Bb,↓A2,↓A0,↓Aq,↓Aj,↓Dq,↓Ah,↓Ax,↓B2,↓J7,↓Ad,↓Bv,↓Bd,↓A9,↓B1,↓A8]
  by_cases q:(k:Int) < ns.length
  · rw [Cd q,M3 (by exact X9 q)];rfl
  · rw [Bn q]
    show Q (.int 0) H=_
    rw [show J0 ns k=0 by unfold J0;rw [List.getD_eq_getElem?_getD,List.getElem?_eq_none (by exact Ag8 q)];rfl]
noncomputable def OkS (r c:Nat):Prop:=1 <= r /\ r <= 30 /\ 1 <= c /\ c <= 30
theorem Cr (a:Int) (n:Nat) (h:0 < n):∃ k:Nat,Int.fmod a n=k /\ k < n:=by
  have h1:=Int.fmod_nonneg_of_pos a (show (0:Int) < n by exact Ag9 h)
  have h2:=Int.fmod_lt_of_pos a (show (0:Int) < n by exact Ag9 h)
  exact ⟨(Int.fmod a n).toNat,by exact Akv h1,by exact Akw h1 h2⟩
theorem Lo {b:Bool} {A B A' B':Prop} (h:brB b A B) (h1:A -> A') (h2:B -> B'):brB b A' B':=by
  cases b
  · exact h2 h
  · exact h1 h
theorem Ael (n:Int) (k:Int) (hk:0 <= k):∃ v,HV v /\ ∀ (H:Hp),Wp (Ai T_09 (d+1) 11 [.int n,.int k]) H (fun w H'=>w=v /\ H'=H) NoE:=by
  refine Af fun G kG=>?_
  refine ex1 (Cr (Int.fdiv n 9) 3 (by decide)) fun a zz=>Ac zz fun ha la=>?_
  refine ex1 (Cr (Int.fdiv n 9) 12 (by decide)) fun b zz=>Ac zz fun hb lb=>?_
  refine ex1 (Cr (Int.fdiv n 9) 1000000001 (by decide)) fun c zz=>Ac zz fun hc lc=>?_
  refine ex1 (Cr (Int.fdiv n 9) 2 (by decide)) fun e zz=>Ac zz fun he le=>?_
  refine kG ?_
  have st:∀ (v:Val) (H:Hp),brB (decide (Int.fmod n 9=8)) (Val.none=v) (brB (decide (k=0)) (Val.int a=v) (brB (decide (k=1)) (Val.int b=v) (brB (decide (k=2)) (Val.int c=v) (Val.int (1000000000 - e)=v)))) -> Wp (Ai T_09 (d+1) 11 [.int n,.int k]) H (fun w H'=>w=v /\ H'=H) NoE:=fun v H h=>by
    rw [As (g:=Yy) rfl rfl]
    refine ⟨by decide,?_⟩
    show brB (decide (Int.fmod n 9=8)) (Val.none=v /\ H=H) (brB (decide (k=0)) (_ /\ _ /\ (Val.int (Int.fmod (Int.fdiv n 9) ((3:Nat):Int))=v /\ H=H)) (brB (decide (k=1)) (_ /\ _ /\ (Val.int (Int.fmod (Int.fdiv n 9) ((12:Nat):Int))=v /\ H=H)) (brB (decide (k=2)) (_ /\ _ /\ (Val.int (Int.fmod (Int.fdiv n 9) ((1000000001:Nat):Int))=v /\ H=H)) (_ /\ _ /\ (Val.int (1000000000 - Int.fmod (Int.fdiv n 9) ((2:Nat):Int))=v /\ H=H)))))
    rw [ha,hb,hc,he]
    refine Lo h (fun h=>⟨h,rfl⟩) fun h=>Lo h (fun h=>⟨by decide,by decide,h,rfl⟩) fun h=>Lo h (fun h=>⟨by decide,by decide,h,rfl⟩) fun h=>Lo h (fun h=>⟨by decide,by decide,h,rfl⟩) fun h=>⟨by decide,by decide,h,rfl⟩
  by_cases q:Int.fmod n 9=8
  · exact ⟨.none,.inl rfl,fun H=>st _ H (by rw [Cd q])⟩
  by_cases q0:k=0
  · exact ⟨.int a,.inr ⟨a,rfl,by exact Akx la,by exact Aky la⟩,fun H=>st _ H (by rw [Bn q,Cd q0])⟩
  by_cases q1:k=1
  · exact ⟨.int b,.inr ⟨b,rfl,by exact Akz lb,by exact Ak0 lb⟩,fun H=>st _ H (by rw [Bn q,Bn q0,Cd q1])⟩
  by_cases q2:k=2
  · exact ⟨.int c,.inr ⟨c,rfl,by exact Ak1 lc,by exact Ak2 lc⟩,fun H=>st _ H (by rw [Bn q,Bn q0,Bn q1,Cd q2])⟩
  · exact ⟨.int (1000000000 - (e:Int)),.inr ⟨_,rfl,by exact Ak3 le,by exact Ak4 le⟩,fun H=>st _ H (by rw [Bn q,Bn q0,Bn q1,Bn q2])⟩
theorem Q8 (ns:List Int) (k:Nat) (hk:k <= 900):∃ n:Int,∀ (H:Hp),Wp (Ai T_09 (d+2) 12 [.script ns,.int (k:Int)]) H (fun w H'=>w=.int n /\ H'=H) NoE:=by
  have sm:small (k:Int)=true:=F8 (by exact Ak5 hk)
  by_cases q:(k:Int)+3 < ns.length
  · refine ⟨ns.getD (k+3) 0,fun H=>?_⟩
    rw [As (g:=M2) rfl rfl,M2]
    simp only [List.map_cons,List.map_nil,List.replicate_zero,List.cons_append,List.nil_append,↓Ag,↓Bb,↓A2,↓Cf,↓A0,↓Aq,↓Aj,↓A8,↓F6,↓Dq,↓Ah,↓Ax,↓B2,↓J7,↓Ad,↓Bv,↓Bd,↓A9,↓B1,↓A1,↓Iu]
    rw [Cd q,show (k:Int)+3=((k+3:Nat):Int) by exact Ak6,M3 (by exact Ak7 q)]
    exact ⟨rfl,rfl⟩
  · refine ⟨7 * J0 ns 1+J0 ns 2 * k * k+13 * k,fun H=>?_⟩
    rw [As (g:=M2) rfl rfl,M2]
    simp only [List.map_cons,List.map_nil,List.replicate_zero,List.cons_append,List.nil_append,↓Ag,↓Bb,↓A2,↓Cf,↓A0,↓Aq,↓Aj,↓A8,↓F6,↓Dq,↓Ah,↓Ax,↓B2,↓J7,↓Ad,↓Bv,↓Bd,↓A9,↓B1,↓A1,↓Iu]
    rw [Bn q]
    show Wp (Ai T_09 (d+1) 8 [.script ns,.int ((1:Nat):Int)]) H _ _
    rw [Gh]
    refine ⟨rfl,?_⟩
    show Wp (Ai T_09 (d+1) 8 [.script ns,.int ((2:Nat):Int)]) H _ _
    rw [Gh]
    refine ⟨by rw [sm,Bool.or_true],by rw [sm,Bool.or_true],rfl,rfl,rfl⟩
end
structure GAt (H:Hp) (l b s:Nat) (g:List (List Val)):Prop where
  top:H[l]?=some (.list ((List.range g.length).map fun i=>.loc (b+s * i)))
  row:∀ i r,g[i]?=some r -> H[b+s * i]?=some (.list r)
theorem GAt.ext {H H':Hp} {l b s:Nat} {g:List (List Val)} (x:GAt H l b s g) (e:Ext H H'):GAt H' l b s g:=⟨e.get x.top,fun i r h=>e.get (x.row i r h)⟩
theorem GAt.other {H:Hp} {l b s m:Nat} {g:List (List Val)} (x:GAt H l b s g) (o:HObj) (h1:m≠l) (h2:∀ i,i < g.length -> m≠b+s * i):GAt (H.set m o) l b s g :=
  ⟨Ay o h1 x.top,fun i r h=>Ay o (h2 i (List.getElem?_eq_some_iff.mp h).1) (x.row i r h)⟩
theorem GAt.item {H:Hp} {l b s:Nat} {g:List (List Val)} (x:GAt H l b s g) {i:Nat} (h:i < g.length):((List.range g.length).map fun i=>Val.loc (b+s * i))[i]?=some (.loc (b+s * i)):=by
  rw [List.getElem?_map,List.getElem?_range h];rfl
section
variable {T:Tab} {Φ:Funs} {Γ:Env'} {H:Hp} {Q:Val -> Hp -> Prop} {E:Nat -> Hp -> Prop}
theorem I5 {chk:Hp -> Bool} {step:Val -> M (Option Val)} {Q:List Val -> Hp -> Prop} {xs:List Val} (I:Nat -> List Val -> Hp -> Prop) (h0:I 0 [] H) (hc:∀ k out H,I k out H -> chk H=true)
    (hs:∀ k x out H,xs[k]?=some x -> I k out H -> Wp (step x) H (fun r H=>I (k+1) (out++r.toList) H) E) (hd:∀ zs H,I xs.length zs H -> Q zs H):Wp (E3 chk step xs) H Q E:=by
  refine Po (fun ys out H=>∃ k,ys=xs.drop k /\ k <= xs.length /\ I k out H) xs [] H ⟨0,rfl,Nat.zero_le _,h0⟩ ?_ ?_ ?_
  · rintro ys out H ⟨k,_,_,h⟩;exact hc k out H h
  · intro x ys out H zz
    refine ex1 zz fun k zz=>An zz fun e l h=>?_
    have hx:xs[k]?=some x:=by
      have:=congrArg (fun z=>z[0]?) e
      simpa using this.symm
    refine (hs k x out H hx h).mono ?_ (fun _ _ h=>h)
    intro r H h
    refine ⟨k+1,?_,(List.getElem?_eq_some_iff.mp hx).1,h⟩
    have:=congrArg List.tail e
    simpa using this
  · intro zs H zz
    refine ex1 zz fun k zz=>An zz fun e l h=>?_
    have:k=xs.length:=by
      have:=congrArg List.length e
      simp at this;exact Agz this l
    subst this;exact hd _ _ h
theorem M4 {elt it:ME} {xs:List Val} {src:Option Nat} (P:Nat -> Val -> Prop) (hit:wpE T Φ it Γ H (fun v H'=>H'=H /\ Cy v H=some (xs,src)) NoE) (hck:chk src xs H=true) (hz:xs.length < lid)
    (he:∀ k x,xs[k]?=some x -> wpE T Φ elt (Γ++[some x]) H (fun v H'=>P k v /\ H'=H) NoE) (q:∀ ys,ys.length=xs.length -> (∀ k v,ys[k]?=some v -> P k v) -> Q (.loc H.length) (H++[.list ys])):wpE T Φ (.comp elt it .none) Γ H Q E:=by
  refine Li (A4 hit ?_)
  rintro v H' ⟨e,hi⟩
  rw [e,hi]
  clear e
  refine I5 (fun k out H'=>H'=H /\ out.length=k /\ ∀ j v,out[j]?=some v -> P j v) ⟨rfl,rfl,fun j v h=>by cases h⟩ ?_ ?_ ?_
  · rintro k out _ ⟨hr0,_⟩;refine Eq.symm hr0▸?_;exact hck
  · rintro k x out _ hx ⟨hr1,hl,hp⟩;refine Eq.symm hr1▸?_
    refine Pp (A4 (he k x hx) ?_)
    rintro v _ ⟨hv,hr2⟩;refine hr2▸?_
    refine ⟨rfl,by rw [List.length_append,hl];rfl,fun j w hj=>?_⟩
    by_cases c:j < out.length
    · rw [List.getElem?_append_left c] at hj;exact hp j w hj
    · rw [List.getElem?_append_right (by exact Aha hl c)] at hj
      have:j - out.length=0:=Nat.lt_one_iff.mp (List.getElem?_eq_some_iff.mp hj).1
      rw [this] at hj
      cases hj
      have:j=k:=by exact Ahb this hl c
      rw [this];exact hv
  · rintro zs _ ⟨hr3,hl0,hp⟩;refine Eq.symm hr3▸?_
    have hl:zs.length=xs.length:=hl0
    clear hl0
    exact ⟨by exact Ak8 hz hl,q zs hl hp⟩
theorem Uo {elt it:ME} {xs:List Val} {src:Option Nat} (s:Nat) (P:Nat -> List Val -> Prop) (hit:wpE T Φ it Γ H (fun v H'=>H'=H /\ Cy v H=some (xs,src)) NoE) (hck:∀ K,Ext H K -> chk src xs K=true) (hz:xs.length < lid)
    (he:∀ k x K,xs[k]?=some x -> Ext H K -> wpE T Φ elt (Γ++[some x]) K (fun v K'=>∃ r,P k r /\ v=.loc (K.length+s) /\ Ext K K' /\ K'.length=K.length+s+1 /\ K'[K.length+s]?=some (.list r)) NoE)
    (q:∀ g K,g.length=xs.length -> (∀ k r,g[k]?=some r -> P k r) -> Ext H K -> GAt K (H.length+(s+1) * g.length) (H.length+s) (s+1) g -> K.length=H.length+(s+1) * g.length+1 -> Q (.loc (H.length+(s+1) * g.length)) K):wpE T Φ (.comp elt it .none) Γ H Q E:=by
  refine Li (A4 hit ?_)
  rintro v H' ⟨e,hi⟩
  rw [e,hi]
  clear e
  refine I5 (fun k out K=>Ext H K /\ K.length=H.length+(s+1) * k /\ out=(List.range k).map (fun i=>Val.loc (H.length+s+(s+1) * i)) /\ ∃ g:List (List Val),g.length=k /\ (∀ j r,g[j]?=some r -> P j r /\ K[H.length+s+(s+1) * j]?=some (.list r)))
    ⟨Ext.refl H,rfl,rfl,[],rfl,fun j r h=>by cases h⟩ ?_ ?_ ?_
  · rintro k out K ⟨e,_⟩;exact hck K e
  · intro k x out K hx zz
    refine Cm zz fun e hl zr2 zz=>ex1 zz fun g zz=>Ac zz fun hg hp=>?_;subst zr2
    refine Pp (A4 (he k x K hx e) ?_)
    intro v K' zz
    refine ex1 zz fun r zz=>Fo zz fun pr zr2 e' hl' hr=>?_;subst zr2
    have pos:K.length+s=H.length+s+(s+1) * k:=by exact Ak9 hl
    refine ⟨e.trans e',by rw [hl',hl,Nat.mul_succ];exact Ala,?_,g++[r],by rw [List.length_append,hg];rfl,fun j w hj=>?_⟩
    · rw [List.range_succ,List.map_append,pos];rfl
    · by_cases c:j < g.length
      · rw [List.getElem?_append_left c] at hj
        exact ⟨(hp j w hj).1,e'.get (hp j w hj).2⟩
      · rw [List.getElem?_append_right (by exact Aha hg c)] at hj
        have:j - g.length=0:=Nat.lt_one_iff.mp (List.getElem?_eq_some_iff.mp hj).1
        rw [this] at hj
        cases hj
        have:j=k:=by exact Ahb this hg c
        rw [this,<- pos];exact ⟨pr,hr⟩
  · intro zs K zz
    refine Cm zz fun e hl zr2 zz=>ex1 zz fun g zz=>Ac zz fun hg hp=>?_;subst zr2
    have gl:g.length=xs.length:=hg
    refine ⟨by rw [List.length_map,List.length_range];exact hz,?_⟩
    rw [hl,<- gl]
    refine q g _ gl (fun k r h=>(hp k r h).1) (e.new _) ⟨?_,fun i r h=>Ext.get ⟨_,rfl⟩ (hp i r h).2⟩ (by rw [List.length_append,hl,<- gl];rfl)
    have:=Al K (.list ((List.range g.length).map fun i=>Val.loc (H.length+s+(s+1) * i)))
    rw [hl,<- gl] at this
    exact this
theorem Aem {it:ME} {n:Nat} (hn:n <= 1000) (h:wpE T Φ it Γ H (fun v H'=>v=.int (n:Int) /\ H'=H) NoE):wpE T Φ (.bf .range (.cons it .nil)) Γ H (fun v H'=>H'=H /\ Cy v H=some (L3 n,none)) NoE:=by
  rw [Dq,Ah]
  refine A4 h ?_
  rintro v _ ⟨rfl,rfl⟩
  rw [Ax,Gg]
  exact ⟨⟨by exact Alb hn,by exact Alc hn⟩,rfl,rfl⟩
theorem Px {n k:Nat} {x:Val} (h:(L3 n)[k]?=some x):x=.int (k:Int) /\ k < n:=by
  obtain ⟨a,b⟩:=Pr h
  exact ⟨a,by exact X9 b⟩
theorem Lp (n:Nat):(L3 n).length=n:=by rw [Ps];exact Ald
theorem Oj {it:ME} {k l b s:Nat} {g:List (List Val)} (hk:Γ.length=k) (G:GAt H l b s g) (hz:g.length < lid) (hit:wpE T Φ it Γ H (fun v H'=>v=.loc l /\ H'=H) NoE)
    (q:∀ K,Ext H K -> GAt K (H.length+g.length) H.length 1 g -> K.length=H.length+g.length+1 -> Q (.loc (H.length+g.length)) K):wpE T Φ (.comp (.bf .list (.cons (.var k) .nil)) it .none) Γ H Q E:=by
  refine Uo (xs:=(List.range g.length).map fun i=>Val.loc (b+s * i)) (src:=some l) 0 (fun j r=>g[j]?=some r) (A4 hit ?_) (fun K e=>B4 (e.get G.top)) (by rw [List.length_map,List.length_range];exact hz) ?_ ?_
  · rintro v _ ⟨rfl,rfl⟩;exact ⟨rfl,Bx G.top⟩
  · intro j x K hx e
    rw [List.getElem?_map] at hx
    cases hj:(List.range g.length)[j]? with
    | none=>rw [hj] at hx;cases hx
    | some i =>
      rw [hj] at hx
      obtain ⟨lt,ej⟩:=List.getElem?_eq_some_iff.mp hj
      rw [List.getElem_range] at ej
      subst ej
      cases hx
      have lt':j < g.length:=by rw [List.length_range] at lt;exact lt
      have hg:g[j]?=some g[j]:=List.getElem?_eq_getElem lt'
      have hr:=e.get (G.row j _ hg)
      rw [Dq,Ah,A0,Eh,List.getElem?_append_right (by exact Ahc hk),hk,Nat.sub_self]
      have:bfV .list [.loc (b+s * j)] K=.ok (.loc K.length) (K++[.list g[j]]):=by
        show (match Cz (.loc (b+s * j)) K with | some xs=>M.alloc (.list xs) K | none=>.bad)=_
        rw [show Cz (.loc (b+s * j)) K=some g[j] by simp only [Cz,hr]];rfl
      exact Wp.of_eq this ⟨_,hg,rfl,⟨_,rfl⟩,by rw [List.length_append];rfl,Al K _⟩
  · intro g' K hl hp e G' hK
    have:g'=g:=by
      rw [List.length_map,List.length_range] at hl
      refine List.ext_getElem? fun i=>?_
      cases h:g'[i]? with
      | some r=>rw [hp i r h]
      | none =>
        rw [List.getElem?_eq_none_iff] at h
        rw [List.getElem?_eq_none (by exact Ale hK hl h)]
    subst this
    rw [Nat.zero_add,Nat.one_mul] at G' hK ⊢
    exact q K e G' hK
end
structure OkG (g:List (List Val)) (r c:Nat):Prop where
  len:g.length=r
  row:∀ (i:Nat) (w:List Val),g[i]?=some w -> w.length=c /\ ∀ v∈w,HV v
section
variable {T:Tab} {Φ:Funs} {Γ:Env'} {H:Hp} {Q:Val -> Hp -> Prop} {E:Nat -> Hp -> Prop} {d:Nat} {QS:Env' -> Hp -> Prop} {R:Val -> Hp -> Prop} {ES:Nat -> Env' -> Hp -> Prop}
theorem Uq {α:Type} {l:List α} {x:α} {j:Nat} {w:α} (h:(l++[x])[j]?=some w):l[j]?=some w \/ (j=l.length /\ w=x):=by
  by_cases c:j < l.length
  · rw [List.getElem?_append_left c] at h;exact .inl h
  · rw [List.getElem?_append_right (by exact Zj c)] at h
    have e:j - l.length=0:=Nat.lt_one_iff.mp (List.getElem?_eq_some_iff.mp h).1
    rw [e] at h
    cases h
    exact .inr ⟨by exact Agy e c,rfl⟩
end
section
variable {T:Tab} {Φ:Funs} {Γ:Env'} {H:Hp} {Q:Val -> Hp -> Prop} {E:Nat -> Hp -> Prop} {d:Nat} {QS:Env' -> Hp -> Prop} {R:Val -> Hp -> Prop} {ES:Nat -> Env' -> Hp -> Prop}
noncomputable def B5 (i c:Nat):List Val:=(List.range c).map fun (j:Nat)=>.tup [.int (i:Int),.int (j:Int)]
noncomputable def cells (r c:Nat):List Val:=(List.range r).flatMap fun i=>B5 i c
theorem Ie (r c:Nat):cells (r+1) c=cells r c++B5 r c:=by
  unfold cells;rw [List.range_succ];simp
theorem Hs (i c:Nat):B5 i (c+1)=B5 i c++[.tup [.int (i:Int),.int (c:Int)]]:=by
  unfold B5;rw [List.range_succ,List.map_append];rfl
theorem Ht (r c:Nat):(cells r c).length=r * c:=by
  induction r with
  | zero=>simp [cells]
  | succ r ih=>rw [Ie,List.length_append,ih,B5,List.length_map,List.length_range,Nat.succ_mul]
theorem Lq (K:Hp) (a b:HObj):(K++[a]).set K.length b=K++[b]:=by
  rw [List.set_append_right _ _ (zI _),Nat.sub_self];rfl
theorem Ur {r c:Nat} (hr:r <= 30) (hc:c <= 30):Wp (Ai T_09 (d+1) 3 [.int (r:Int),.int (c:Int)]) H (fun v H'=>v=.loc H.length /\ H'=H++[.list (cells r c)]) NoE:=by
  have hlid:lid=16777216:=rfl
  rw [As (g:=Aef) rfl rfl]
  refine Au (fun v H'=>v=.loc H.length /\ H'=H++[.list []]) ?_ ?_
  · simp only [↓E9,↓Ax,and_self]
  rintro _ H1 ⟨rfl,e⟩
  rw [e];clear e H1
  refine D9 (fun Γ H'=>∃ a b,Γ=[some (.int r),some (.int c),some (.loc H.length),a,b] /\ H'=H++[.list (cells r c)]) ?_ ?_
  · refine Dk (n:=r) (fun k Γ K=>∃ a b,Γ=[some (.int r),some (.int c),some (.loc H.length),a,b] /\ K=H++[.list (cells k c)] /\ k <= r) ?_ ?_ ?_ ?_ ?_
    · simp only [↓A0,List.map_cons,List.map_nil,List.replicate_succ,List.replicate_zero,List.cons_append,List.nil_append,List.set_cons_succ,List.set_cons_zero,and_true,↓Aj]
    · exact Ahd hr
    · exact ⟨_,_,rfl,rfl,Nat.zero_le _⟩
    · intro k Γ K hk zz
      refine ex2 zz fun a b zz=>An zz fun zr2 zr3 _=>?_;subst zr2;subst zr3
      refine D9 (fun Γ K=>∃ a b,Γ=[some (.int r),some (.int c),some (.loc H.length),a,b] /\ K=H++[.list (cells (k+1) c)] /\ k+1 <= r) ?_ (fun Γ K h=>by skip;exact h)
      refine Dk (n:=c) (fun j Γ K=>∃ b,Γ=[some (.int r),some (.int c),some (.loc H.length),some (.int k),b] /\ K=H++[.list (cells k c++B5 k j)] /\ j <= c) ?_ ?_ ?_ ?_ ?_
      · simp only [↓A0,List.set_cons_succ,List.set_cons_zero,and_true,↓Aq,↓Aj]
      · exact Ahd hc
      · exact ⟨_,rfl,by simp [B5],Nat.zero_le _⟩
      · intro j Γ K hj zz
        refine ex1 zz fun b zz=>An zz fun zr1 zr2 _=>?_;subst zr1;subst zr2
        refine Iv (fun K'=>K'=H++[.list (cells k c++B5 k (j+1))]) ?_ ?_
        · refine Cw rfl (Al H _) ?_
          simp only [↓Dw,↓Ah,↓A0,List.set_cons_succ,List.set_cons_zero,↓Ax,↓Aq,↓Aj]
          refine ⟨_,Al H _,?_,?_⟩
          · rw [List.length_append,Ht,B5,List.length_map,List.length_range]
            have:=Nat.mul_le_mul (show k <= 30 by exact Alf hk hr) hc
            exact Alg hj hlid this hc
          · rw [Lq,List.append_assoc,<- Hs]
        · rintro K' rfl
          exact ⟨_,rfl,rfl,by exact Ahe hj⟩
      · intro Γ K zz
        refine ex1 zz fun b zz=>An zz fun zr1 e _=>?_;subst zr1
        rw [Int.toNat_natCast,<- Ie] at e
        exact ⟨_,_,rfl,e,by exact Ahe hk⟩
    · intro Γ K zz
      refine ex2 zz fun a b zz=>An zz fun e e' _=>?_
      rw [Int.toNat_natCast] at e'
      exact ⟨a,b,e,e'⟩
  intro Γ K zz
  refine ex2 zz fun a b zz=>Ac zz fun zr2 zr3=>?_;subst zr2;subst zr3
  simp only [↓Ag,↓Bv,↓Bd,↓A0,↓Aq,↓Aj,and_self]
theorem Xi {i j l m:Nat} {a b:ME} {body:MSs} {xs ys:List Val} (I:Nat -> Env' -> Hp -> Prop) (ha:wpE T Φ a Γ H (fun v H'=>v=.loc l /\ H'=H) NoE) (hb:wpE T Φ b Γ H (fun v H'=>v=.loc m /\ H'=H) NoE)
    (hl:H[l]?=some (.list xs)) (hm:H[m]?=some (.list ys)) (e:xs.length=ys.length) (h0:I 0 Γ (H++[.hid])) (hx:∀ k Γ K,I k Γ K -> Ext (H++[.hid]) K)
    (hs:∀ k x y Γ K,xs[k]?=some x -> ys[k]?=some y -> I k Γ K -> wpSs T Φ body ((Γ.set i (some x)).set j (some y)) K (I (k+1)) R ES)
    (hd:∀ Γ K,I xs.length Γ K -> QS Γ K):wpS T Φ (.eachZip i j a b body) Γ H QS R ES:=by
  refine Oc (A4 ha ?_)
  rintro v H' ⟨rfl,e1⟩
  rw [e1];clear e1 H'
  refine A4 hb ?_
  rintro v H' ⟨rfl,e1⟩
  rw [e1];clear e1 H'
  rw [Bj (show L9 (.loc l) (.loc m) H=some ((xs,some l),(ys,some m)) by unfold L9;simp only [Jx hl,Jx hm])]
  refine ⟨e,?_⟩
  have pl:∀ (xs ys:List Val),xs.length=ys.length -> (Du xs ys).length=xs.length /\ ∀ (k:Nat) z,(Du xs ys)[k]?=some z -> ∃ x y,xs[k]?=some x /\ ys[k]?=some y /\ z=.tup [x,y]:=by
    intro xs
    induction xs with
    | nil=>intro ys e;exact ⟨rfl,fun k z h=>by cases h⟩
    | cons x xs ih =>
      intro ys e
      cases ys with
      | nil=>cases e
      | cons y ys =>
        obtain ⟨h1,h2⟩:=ih ys (Nat.succ.inj e)
        refine ⟨congrArg (·+1) h1,fun k z h=>?_⟩
        cases k with
        | zero=>cases h;exact ⟨x,y,rfl,rfl,rfl⟩
        | succ k=>exact h2 k z h
  obtain ⟨p1,p2⟩:=pl xs ys e
  refine B9 I h0 ?_ ?_ ?_
  · intro Γ K h;rw [show (Du xs ys).length=xs.length from p1] at h;exact hd Γ K h
  · intro k Γ K _ h
    have eK:=hx k Γ K h
    have e0:Ext H (H++[HObj.hid]):=⟨_,rfl⟩
    have h3:Ma H.length K=true:=by unfold Ma;rw [eK.get (Al H _)]
    show (chk (some l) xs K && chk (some m) ys K && Ma H.length K)=true
    rw [B4 (eK.get (e0.get hl)),B4 (eK.get (e0.get hm)),h3];rfl
  · intro k z Γ K hz h
    refine Af fun G kG=>?_
    refine ex2 (p2 k z hz) fun x y zz=>An zz fun hx' hy zr4=>?_;subst zr4
    refine kG ?_
    exact ⟨_,rfl,hs k x y Γ K hx' hy h⟩
end
section
variable {T:Tab} {Φ:Funs} {Γ:Env'} {H:Hp} {Q:Val -> Hp -> Prop} {E:Nat -> Hp -> Prop} {d:Nat} {QS:Env' -> Hp -> Prop} {R:Val -> Hp -> Prop} {ES:Nat -> Env' -> Hp -> Prop}
theorem C6 {i c n:Nat} {fs:List (Nat × Val)} {v:Val} (h:H[i]?=some (.inst c fs)) (hf:fs.lookup n=some v):Wp (Iy (.loc i) n) H Q E=Q v H:=by
  have:Iy (.loc i) n H=.ok v H:=by
    unfold Iy;rw [Db];simp only [h,hf]
  unfold Wp;rw [this]
theorem Fd {i c n:Nat} {fs:List (Nat × Val)} {v:Val} {Q:Unit -> Hp -> Prop} (h:H[i]?=some (.inst c fs)):Wp (Bp (.loc i) n v) H Q E=Q () (H.set i (.inst c (Rh fs n v))):=by
  have:Bp (.loc i) n v H=.ok () (H.set i (.inst c (Rh fs n v))):=by
    unfold Bp;simp only [h]
  unfold Wp;rw [this]
theorem Dx {l:Nat} {xs:List Val} (h:H[l]?=some (.list xs)) {k:Nat} {v:Val} (hk:xs[k]?=some v):Wp (De (.loc l) (.int (k:Int))) H Q E=Q v H:=by
  have lt:=(List.getElem?_eq_some_iff.mp hk).1
  have:De (.loc l) (.int (k:Int)) H=.ok v H:=by
    unfold De;rw [Db]
    simp only [h,T6 k xs.length lt,Option.bind_some,hk]
  unfold Wp;rw [this]
theorem Ej {i c m k:Nat} {fs:List (Nat × Val)} {Q:Nat -> Hp -> Prop} (h:H[i]?=some (.inst c fs)) (hk:T.meth c m=some k):Wp (C2 T (.loc i) m) H Q E=Q k H:=by
  have:C2 T (.loc i) m H=.ok k H:=by
    unfold C2;rw [Db];simp only [h,hk]
  unfold Wp;rw [this]
theorem Gc {i l:Nat} {it:ME} {body:MSs} {xs:List Val} (I:Nat -> Env' -> Hp -> Prop) (hit:wpE T Φ it Γ H (fun v H'=>v=.loc l /\ H'=H) NoE) (hl:H[l]?=some (.list xs)) (h0:I 0 Γ H) (hx:∀ k Γ K,I k Γ K -> K[l]?=some (.list xs))
    (hs:∀ k x Γ K,xs[k]?=some x -> I k Γ K -> wpSs T Φ body (Γ.set i (some x)) K (I (k+1)) R ES) (hd:∀ Γ K,I xs.length Γ K -> QS Γ K):wpS T Φ (.each i it body) Γ H QS R ES:=by
  refine C5 (A4 hit ?_)
  rintro v H' ⟨rfl,e⟩
  rw [e,Bj (Bx hl)]
  exact B9 I h0 hd (fun k Γ K _ h=>B4 (hx k Γ K h)) fun k x Γ K hx h=>⟨_,rfl,hs k x Γ K hx h⟩
theorem M5 {l b s r c:Nat} {g:List (List Val)} {k:Nat} {x:Val} (og:OkG g r c) (G:GAt H l b s g) (hx:((List.range g.length).map fun i=>Val.loc (b+s * i))[k]?=some x):∃ w,x=.loc (b+s * k) /\ g[k]?=some w /\ H[b+s * k]?=some (.list w) /\ w.length=c /\ ∀ v∈w,HV v:=by
  have lt:k < g.length:=by have:=(List.getElem?_eq_some_iff.mp hx).1;simpa using this
  rw [G.item lt] at hx
  cases hx
  have hg:g[k]?=some g[k]:=List.getElem?_eq_getElem lt
  exact ⟨g[k],rfl,hg,G.row k _ hg,og.row k _ hg⟩
theorem Ze {l n:Nat} {w:List Val} {k:Nat} {Γ:Env'} (g:Γ[k]?=some (some (.loc l))) (h:H[l]?=some (.list w)) (e:w.length=n) (h1:1 <= n) (h2:n <= 30):wpE T_09 (Ai T_09 (d+1)) (.or (.not (.isinst (.var k) .list)) (.not (.call 0 (.cons (.bf .len (.cons (.var k) .nil)) (.cons (.int 1) (.cons (.glob 0) .nil)))))) Γ H (fun v K=>v=.bool false /\ H=K) NoE:=by
  rw [Eo,C8,Cl,wvr g,T5 _ _ h,Ad]
  rw [Ad]
  show wpE _ _ _ _ _ _ _
  rw [C8,A1,Ah,Dq,wcv g,Ax,Ar h,Ah,A8,Ah,wp_glob,Aby,Ck,Ax,e,Hr (by exact Alh h1 h2) (by exact Ali h1 h2)]
  exact ⟨rfl,rfl⟩
theorem Abz {l b s r c:Nat} {g:List (List Val)} {x1:Option Val} (hS:OkS r c) (og:OkG g r c) (G:GAt H l b s g) (q:∀ a,QS [some (.loc l),a] H):wpS T_09 (Ai T_09 (d+1)) (.each 1 (.var 0) zT12) [some (.loc l),x1] H QS R NoX:=by
  unfold OkS at hS
  obtain ⟨I,hI⟩:=Dr (fun (k:Nat) (Γ:Env') (K:Hp)=>H=K /\ ∃ a,Γ=[some (.loc l),a])
  refine Gc I ⟨rfl,rfl⟩ G.top ((hI _ _ _).mpr ⟨rfl,_,rfl⟩) (fun k Γ K h=>by rw [<- ((hI _ _ _).mp h).1];exact G.top) ?_ ?_
  · intro k x Γ K hx h
    refine Ac ((hI _ _ _).mp h) fun zr0 zz=>ex1 zz fun a zr2=>?_;subst zr0;subst zr2
    refine ex1 (M5 og G hx) fun w zz=>Fo zz fun zr1 hg hr lw _=>?_;subst zr1
    exact Iw _ (Ze rfl hr lw (by exact Alj hS lw) (by exact Alk hS lw)) fun K h=>(hI _ _ _).mpr ⟨h,_,rfl⟩
  · intro Γ K h
    refine Ac ((hI _ _ _).mp h) fun zr0 zz=>ex1 zz fun a zr2=>?_;subst zr0;subst zr2
    exact q a
theorem Aen {l b s r c:Nat} {g:List (List Val)} {x1:Option Val} (hS:OkS r c) (og:OkG g r c) (G:GAt H l b s g) (q:∀ a,QS [some (.loc l),a] H):wpS T_09 (Ai T_09 (d+1)) (.each 1 (.var 0) zT15) [some (.loc l),x1] H QS R NoX:=by
  unfold OkS at hS
  obtain ⟨x0,hx0⟩:∃ x,((List.range g.length).map fun i=>Val.loc (b+s * i))[0]?=some x:=⟨_,List.getElem?_eq_getElem (by rw [List.length_map,List.length_range,og.len];exact Ahf hS)⟩
  refine ex1 (M5 og G hx0) fun w0 zz=>Fo zz fun zr1 _ hr0 lw0 _=>?_;subst zr1
  obtain ⟨I,hI⟩:=Dr (fun (k:Nat) (Γ:Env') (K:Hp)=>H=K /\ ∃ a,Γ=[some (.loc l),a])
  refine Gc I ⟨rfl,rfl⟩ G.top ((hI _ _ _).mpr ⟨rfl,_,rfl⟩) (fun k Γ K h=>by rw [<- ((hI _ _ _).mp h).1];exact G.top) ?_ ?_
  · clear q
    intro k x Γ K hx h
    refine Ac ((hI _ _ _).mp h) fun zr0 zz=>ex1 zz fun a zr2=>?_;subst zr0;subst zr2
    refine ex1 (M5 og G hx) fun w zz=>Fo zz fun hr1 hg hr lw _=>?_;refine Eq.symm hr1▸?_
    refine Iw (fun K=>H=K) ?_ fun K h=>(hI _ _ _).mpr ⟨h,_,rfl⟩
    show Wp (bfV .len [.loc (b+s * k)]) H _ _
    rw [Ar hr]
    show Wp (De (.loc l) (.int ((0:Nat):Int))) H _ _
    rw [Dx G.top hx0]
    show Wp (bfV .len [.loc (b+s * 0)]) H _ _
    rw [Ar hr0,lw,lw0,Oe,decide_eq_true rfl]
    exact ⟨rfl,rfl⟩
  · intro Γ K h
    refine Ac ((hI _ _ _).mp h) fun zr0 zz=>ex1 zz fun a zr2=>?_;subst zr0;subst zr2
    exact q a
theorem Xj {l b s r c:Nat} {g:List (List Val)} (hS:OkS r c) (og:OkG g r c) (G:GAt H l b s g):Wp (Ai T_09 (d+2) 5 [.loc l]) H (fun v H'=>v=.none /\ H'=H) NoE:=by
  have hS':=hS
  unfold OkS at hS'
  rw [As (g:=Abq) rfl rfl,Abq]
  refine Iw _ (Ze rfl G.top (show _=r by rw [List.length_map,List.length_range,og.len]) hS'.1 hS'.2.1) ?_
  rintro _ rfl
  rw [Ag]
  refine Abz hS og G fun a=>?_
  rw [Ag]
  exact Aen hS og G fun a=>⟨rfl,rfl⟩
structure LandAt (H:Hp) (o r c lg b s ls:Nat) (g:List (List Val)) (es:List (Key × Val)):Prop where
  inst:∃ fs,H[o]?=some (.inst 7 fs) /\ fs.lookup 0=some (.int (r:Int)) /\ fs.lookup 1=some (.int (c:Int)) /\ fs.lookup 2=some (.loc lg) /\ fs.lookup 3=some (.loc ls)
  grid:GAt H lg b s g
  sinks:H[ls]?=some (.dict es)
theorem LandAt.ext {H':Hp} {o r c lg b s ls:Nat} {g:List (List Val)} {es:List (Key × Val)} (x:LandAt H o r c lg b s ls g es) (e:Ext H H'):LandAt H' o r c lg b s ls g es:=by
  refine ex1 x.inst fun fs zz=>Ac zz fun h1 h2=>?_
  exact ⟨⟨fs,e.get h1,h2⟩,x.grid.ext e,e.get x.sinks⟩
structure But (l:Nat) (H H':Hp):Prop where
  keep:∀ m ob,m≠l -> H[m]?=some ob -> H'[m]?=some ob
  len:H.length <= H'.length
theorem Xk {o l b s r c:Nat} {g:List (List Val)} (og:OkG g r c) (G:GAt H l b s g) (q:∀ a b,QS [some (.loc o),some (.loc l),a,b] H) :
    wpS T_09 (Ai T_09 (d+2)) (.each 2 (.var 1) zT16) [some (.loc o),some (.loc l),none,none] H QS R NoX:=by
  obtain ⟨I,hI⟩:=Dr (fun (k:Nat) (Γ:Env') (K:Hp)=>H=K /\ ∃ a b,Γ=[some (.loc o),some (.loc l),a,b])
  refine Gc I ⟨rfl,rfl⟩ G.top ((hI _ _ _).mpr ⟨rfl,_,_,rfl⟩) (fun k Γ K h=>by rw [<- ((hI _ _ _).mp h).1];exact G.top) ?_ ?_
  · clear q
    intro k x Γ K hx h
    refine Ac ((hI _ _ _).mp h) fun zr0 zz=>ex2 zz fun a b' zr3=>?_;subst zr0;subst zr3
    refine ex1 (M5 og G hx) fun w zz=>Fo zz fun zr1 hg hr lw hw=>?_;subst zr1
    refine Gc I ⟨rfl,rfl⟩ hr ((hI _ _ _).mpr ⟨rfl,_,_,rfl⟩) (fun k Γ K h=>by rw [<- ((hI _ _ _).mp h).1];exact hr) ?_ (fun Γ K h=>(hI _ _ _).mpr ((hI _ _ _).mp h))
    intro j v Γ K2 hv h
    refine Ac ((hI _ _ _).mp h) fun zr0 zz=>ex2 zz fun a b' zr3=>?_;subst zr0;subst zr3
    refine Iw (fun K=>H=K) ?_ (fun K h=>(hI _ _ _).mpr ⟨h,_,_,rfl⟩)
    rw [C8,A1,wcv (v:=v) rfl,Ax,Q7 (hw v (zF hv))]
    exact ⟨rfl,rfl⟩
  · intro Γ K h
    refine Ac ((hI _ _ _).mp h) fun zr0 zz=>ex2 zz fun a b zr3=>?_;subst zr0;subst zr3
    exact q a b
theorem Xl {o l b s r c:Nat} {g:List (List Val)} (hS:OkS r c) (og:OkG g r c) (G:GAt H l b s g) (ho:H[o]?=some (.inst 7 [])) :
    Wp (Ai T_09 (d+3) 23 [.loc o,.loc l]) H (fun v H'=>v=.none /\ But o H H' /\ ∃ lg b' ls,LandAt H' o r c lg b' 1 ls g [] /\ H.length <= b' /\ lg=b'+r /\ H.length <= ls) NoE:=by
  have hS':=hS
  unfold OkS at hS'
  have len:((List.range g.length).map fun i=>Val.loc (b+s * i)).length=r:=by rw [List.length_map,List.length_range,og.len]
  have ne:∀ k w,g[k]?=some w -> o≠b+s * k:=fun k w hg q=>by have:=G.row k w hg;rw [<- q,ho] at this;cases this
  have nl:o≠l:=fun q=>by have:=G.top;rw [<- q,ho] at this;cases this
  have G1:∀ ob,GAt (H.set o ob) l b s g:=fun ob=>G.other ob nl fun i hi=>ne i g[i] (List.getElem?_eq_getElem hi)
  rw [As (g:=Y6) rfl rfl]
  refine Iv (fun K=>H=K) ?_ ?_
  · exact (Xj hS og G).then fun v H' h=>h.2.symm
  rintro _ hr0;refine hr0▸?_
  refine Xk og G fun a b'=>?_
  obtain ⟨x0,hx0⟩:∃ x,((List.range g.length).map fun i=>Val.loc (b+s * i))[0]?=some x:=⟨_,List.getElem?_eq_getElem (by skip;exact Alm hS' len)⟩
  refine ex1 (M5 og G hx0) fun w0 zz=>Fo zz fun zr1 hg0 hr0 lw0 _=>?_;subst zr1
  show Wp (bfV .len [.loc l]) H _ _
  rw [Ar G.top,len]
  show Wp (Bp (.loc o) 0 (.int (r:Int))) H _ _
  rw [Fd ho]
  show Wp (De (.loc l) (.int ((0:Nat):Int))) _ _ _
  rw [Dx (G1 _).top hx0]
  show Wp (bfV .len [.loc (b+s * 0)]) _ _ _
  rw [Ar ((G1 _).row 0 w0 hg0),lw0]
  show Wp (Bp (.loc o) 1 (.int (c:Int))) _ _ _
  rw [Fd (Bo _ ho),List.set_set]
  refine Oj (l:=l) (b:=b) (s:=s) (g:=g) rfl (G1 _) (by rw [og.len];show r < 16777216;exact Aln hS' len) ⟨rfl,rfl⟩ ?_
  intro K2 e2 G2 hK2
  rw [List.length_set] at G2 hK2 ⊢
  have o2:=e2.get (Bo (HObj.inst 7 [(0,Val.int (r:Int)),(1,Val.int (c:Int))]) ho)
  have lo:o < H.length:=Bw ho
  have e3:∀ (X:Hp) (ob:HObj),Ext X (X++[ob]):=fun X ob=>⟨_,rfl⟩
  show Wp (Bp (.loc o) 2 (.loc (H.length+g.length))) K2 _ _
  rw [Fd o2]
  show Wp (Bp (.loc o) 3 _) (_++[.dict []]) _ _
  rw [Fd ((e3 _ _).get (Bo _ o2))]
  have G3:∀ (X:Hp) (ob:HObj),GAt X (H.length+g.length) H.length 1 g -> GAt (X.set o ob) (H.length+g.length) H.length 1 g:=fun X ob x=>x.other ob (by exact Alo lo) fun i _=>by exact Alp lo
  refine ⟨rfl,⟨fun m ob hm h=>?_,?_⟩,H.length+g.length,H.length,K2.length,⟨⟨_,Bo _ ((e3 _ _).get (Bo _ o2)),rfl,rfl,rfl,?_⟩,G3 _ _ ((G3 _ _ G2).ext (e3 _ _)),?_⟩,zI _,by rw [og.len],by exact Alq hK2⟩
  · exact Ay _ (Ne.symm hm) ((e3 _ _).get (Ay _ (Ne.symm hm) (e2.get (Ay _ (Ne.symm hm) h))))
  · rw [List.length_set,List.length_append,List.length_set];exact Alr hK2
  · rw [List.length_set];rfl
  · refine Ay _ (by exact Als lo hK2) ?_
    have:=Al (K2.set o (HObj.inst 7 (Rh [(0,Val.int (r:Int)),(1,Val.int (c:Int))] 2 (Val.loc (H.length+g.length))))) (.dict [])
    rw [List.length_set] at this
    exact this
end
section
variable {T:Tab} {Φ:Funs} {Γ:Env'} {H:Hp} {Q:Val -> Hp -> Prop} {E:Nat -> Hp -> Prop} {d:Nat} {QS:Env' -> Hp -> Prop} {R:Val -> Hp -> Prop} {ES:Nat -> Env' -> Hp -> Prop}
theorem Zf {H H':Hp} (h:∀ (m:Nat) (ob:HObj),H[m]?=some ob -> H'[m]?=some ob):Ext H H':=by
  refine ⟨H'.drop H.length,List.ext_getElem? fun i=>?_⟩
  by_cases c:i < H.length
  · rw [List.getElem?_append_left c,List.getElem?_eq_getElem c]
    exact h i _ (List.getElem?_eq_getElem c)
  · rw [List.getElem?_append_right (by exact Zj c),List.getElem?_drop,show H.length+(i - H.length)=i by exact Alt c]
theorem Ab0 {l b s r c:Nat} {g:List (List Val)} (hS:OkS r c) (og:OkG g r c) (G:GAt H l b s g):Wp (P6 T_09 (Ai T_09 (d+3)) 7 [.loc l]) H (fun v H'=>v=.loc H.length /\ Ext H H' /\ ∃ lg b' ls,LandAt H' H.length r c lg b' 1 ls g [] /\ H.length < b' /\ lg=b'+r /\ H.length < ls) NoE:=by
  show Wp ((M.alloc (.inst 7 [])).bnd fun o=>(Ai T_09 (d+3) 23 [o,.loc l]).bnd fun r=>match r with
    | .none=>.ret o
    | _=>.bad) H _ _
  rw [Az,W8,Az]
  have e0:Ext H (H++[HObj.inst 7 []]):=⟨_,rfl⟩
  refine (Xl hS og (G.ext e0) (Al H _)).then ?_
  intro v H' zz
  refine An zz fun zr0 bt zz=>ex3 zz fun lg b' ls zz=>Cm zz fun L h1 h2 h3=>?_;subst zr0
  rw [List.length_append,List.length_singleton] at h1 h3
  refine ⟨rfl,Zf fun m ob hm=>bt.keep m ob (Nat.ne_of_lt (Bw hm)) (e0.get hm),lg,b',ls,L,h1,h2,h3⟩
theorem Ol {o r c lg b s ls:Nat} {g:List (List Val)} {es:List (Key × Val)} (og:OkG g r c) (hr:r <= 30) (L:LandAt H o r c lg b s ls g es):Wp (Ai T_09 (d+1) 28 [.loc o]) H (fun v H'=>v=.loc (H.length+r) /\ Ext H H' /\ GAt H' (H.length+r) H.length 1 g) NoE:=by
  have hlid:lid=16777216:=rfl
  refine ex1 L.inst fun fs zz=>Fo zz fun h0 h1 h2 h3 h4=>?_
  rw [As (g:=Uf) rfl rfl,Uf]
  simp only [List.map_cons,List.map_nil,List.replicate_zero,List.cons_append,List.nil_append,↓Ag,↓Bv,↓Bd]
  refine Oj (l:=lg) (b:=b) (s:=s) (g:=g) rfl L.grid (by rw [og.len];exact Alu hlid hr) ?_ ?_
  · simp only [↓Dp,↓A0,↓Aj]
    rw [C6 h0 h3]
    exact ⟨rfl,rfl⟩
  · intro K e G _
    rw [og.len] at G ⊢
    exact ⟨rfl,e,G⟩
noncomputable def inD (es:List (Key × Val)) (x:Val):Bool:=match Er x with
  | some k=>(Ec es k).isSome
  | none=>false
theorem Lr {r c:Nat} {x:Val} (h:x∈cells r c):∃ i j:Nat,x=.tup [.int (i:Int),.int (j:Int)] /\ i < r /\ j < c:=by
  unfold cells B5 at h
  refine ex1 (List.mem_flatMap.mp h) fun i zz=>Ac zz fun hi h=>?_
  refine ex1 (List.mem_map.mp h) fun j zz=>Ac zz fun hj h=>?_
  exact ⟨i,j,h.symm,List.mem_range.mp hi,List.mem_range.mp hj⟩
theorem Ab1 {ls:Nat} {es:List (Key × Val)} {i j:Int} (h:H[ls]?=some (.dict es)):Dl .isin (.tup [.int i,.int j]) (.loc ls) H=some (inD es (.tup [.int i,.int j])):=by
  have e:Dl .isin (.tup [.int i,.int j]) (.loc ls) H=inV (.tup [.int i,.int j]) (.loc ls) H:=rfl
  rw [e]
  unfold inV
  simp only [h]
  rfl
theorem Ez {α:Type} {l:List α} {k:Nat} {x:α} (h:l[k]?=some x):l.take (k+1)=l.take k++[x]:=by
  rw [List.take_add_one,h];rfl
theorem Ks {o r c lg b s ls:Nat} {g:List (List Val)} {es:List (Key × Val)} (hr:r <= 30) (hc:c <= 30) (L:LandAt H o r c lg b s ls g es):Wp (Ai T_09 (d+2) 27 [.loc o]) H (fun v H'=>∃ m,v=.loc m /\ H.length <= m /\ Ext H H' /\ H'[m]?=some (.list ((cells r c).filter (inD es)))) NoE:=by
  have hlid:lid=16777216:=rfl
  refine ex1 L.inst fun fs zz=>Fo zz fun h0 h1 h2 h3 h4=>?_
  rw [As (g:=Ue) rfl rfl,Ue]
  simp only [List.map_cons,List.map_nil,List.replicate_zero,List.cons_append,List.nil_append,↓Ag,↓Bv,↓Bd]
  refine Li ?_
  simp only [↓A1,↓Ah,↓Dp,↓A0,↓Aj,↓Ax,List.cons_append,List.nil_append]
  rw [C6 h0 h1,C6 h0 h2]
  refine (Ur hr hc).then ?_
  rintro v K ⟨rfl,e⟩
  rw [e];clear e K
  have e0:Ext H (H++[HObj.list (cells r c)]):=⟨_,rfl⟩
  rw [Bj (Bx (Al H _))]
  refine I5 (fun k out K=>K=H++[.list (cells r c)] /\ out=((cells r c).take k).filter (inD es)) ⟨rfl,rfl⟩ ?_ ?_ ?_
  · rintro k out K ⟨rfl,_⟩;exact B4 (Al H _)
  · rintro k x out K hx ⟨rfl,rfl⟩
    refine ex2 (Lr (zF hx)) fun i j zz=>An zz fun zr2 _ _=>?_;subst zr2
    refine wp_step ?_
    simp only [↓A2,↓A0,↓Aq,↓Aj,↓Dp,↓Ad]
    rw [C6 (e0.get h0) h4,Bj (Ab1 (e0.get L.sinks))]
    simp only [true_and]
    rw [Ez hx,List.filter_append]
    refine B8 ?_ ?_
    · intro q
      rw [List.filter_cons_of_pos q];rfl
    · intro q
      rw [List.filter_cons_of_neg (by rw [q];exact Bool.false_ne_true)];rfl
  · rintro zs K ⟨rfl,rfl⟩
    have tl:(cells r c).take (cells r c).length=cells r c:=List.take_length
    refine ⟨?_,_,rfl,by rw [List.length_append];exact Ahg,e0.new _,?_⟩
    · refine zA (List.length_filter_le _ _) ?_
      rw [tl,Ht]
      have:=Nat.mul_le_mul hr hc
      exact Alv hlid this
    · rw [Al,tl]
theorem Py {o r c lg b s ls i j:Nat} {g:List (List Val)} {es:List (Key × Val)} (hi:i < r) (hj:j < c) (L:LandAt H o r c lg b s ls g es):Wp (Ai T_09 (d+3) 24 [.loc o,.tup [.int (i:Int),.int (j:Int)]]) H (fun v H'=>v=.none /\ H'=H) NoE:=by
  refine ex1 L.inst fun fs zz=>Fo zz fun h0 h1 h2 h3 h4=>?_
  rw [As (g:=Ub) rfl rfl,Ub]
  refine Iw (fun H'=>H'=H) ?_ ?_
  · simp only [↓C8,↓A1,↓Ah,↓Dp,↓A0,List.map_cons,List.map_nil,List.replicate_zero,List.cons_append,List.nil_append,↓Ax,↓Aq,↓Aj]
    rw [C6 h0 h1,C6 h0 h2,Pw (by exact Ni) (by exact Vg hi) (by exact Ni) (by exact Vg hj)]
    simp only [↓Ad,Bool.not_true,and_self]
  · rintro H' rfl
    rw [B1];exact ⟨rfl,rfl⟩
theorem Pz {o i j:Nat} {fs:List (Nat × Val)} {P:Hp -> Prop} (h0:H[o]?=some (.inst 7 fs)) (h:Wp (Ai T_09 d 24 [.loc o,.tup [.int (i:Int),.int (j:Int)]]) H (fun v H'=>v=.none /\ H'=H) NoE) (p:P H) {Γ:Env'} (g0:Γ[0]?=some (some (.loc o))) (g1:Γ[1]?=some (some (.tup [.int (i:Int),.int (j:Int)]))) :
    wpE T_09 (Ai T_09 d) (.umeth (.var 0) 1 (.cons (.var 1) .nil)) Γ H (fun _ H'=>P H') NoE:=by
  rw [B0,A0,Eh,g0]
  show Wp (C2 T_09 (.loc o) 1) H _ _
  rw [Ej h0 (show T_09.meth 7 1=some 24 from rfl),Ah,A0,Eh,g1]
  show wpEs _ _ _ _ _ _ _
  rw [Ax]
  exact h.then fun v H' e=>e.2▸p
theorem P0 {o r c lg b s ls i j:Nat} {g:List (List Val)} {es:List (Key × Val)} {w:List Val} {x:Val} (hi:i < r) (hj:j < c) (L:LandAt H o r c lg b s ls g es) (hw:g[i]?=some w) (hx:w[j]?=some x) :
    Wp (Ai T_09 (d+4) 25 [.loc o,.tup [.int (i:Int),.int (j:Int)]]) H (fun v H'=>v=x /\ H'=H) NoE:=by
  refine ex1 L.inst fun fs zz=>Fo zz fun h0 h1 h2 h3 h4=>?_
  rw [As (g:=Uc) rfl rfl,Uc]
  refine Iv (fun H'=>H'=H) (Pz (P:=fun K=>K=H) h0 (Py hi hj L) rfl rfl rfl) ?_
  rintro H' rfl
  simp only [↓Ag,↓Bv,↓Bd,↓A9,↓Dp,↓A0,List.map_cons,List.map_nil,List.replicate_zero,List.cons_append,List.nil_append,↓A8,↓Aq,↓Aj,↓Fc,↓Fb]
  rw [C6 h0 h3,Dx L.grid.top (L.grid.item (List.getElem?_eq_some_iff.mp hw).1),Dx (L.grid.row i w hw) hx]
  exact ⟨rfl,rfl⟩
theorem Q9 {o r c lg b s ls i j:Nat} {g:List (List Val)} {es:List (Key × Val)} {w:List Val} {n:Int} (hi:i < r) (hj:j < c) (L:LandAt H o r c lg b s ls g es) (hw:g[i]?=some w) (hx:w[j]?=some (.int n)) (he:es.length < lid) :
    Wp (Ai T_09 (d+4) 26 [.loc o,.tup [.int (i:Int),.int (j:Int)]]) H (fun v H'=>v=.none /\ H'=H.set ls (.dict (Gk es ((i:Int),(j:Int)) (.bool true)))) NoE:=by
  refine ex1 L.inst fun fs zz=>Fo zz fun h0 h1 h2 h3 h4=>?_
  rw [As (g:=Ud) rfl rfl,Ud]
  refine Iv (fun H'=>H'=H) (Pz (P:=fun K=>K=H) h0 (Py hi hj L) rfl rfl rfl) ?_
  rintro H' rfl
  refine Iw (fun K=>K=H') ?_ ?_
  · simp only [↓A2,↓A9,↓Dp,↓A0,List.map_cons,List.map_nil,List.replicate_zero,List.cons_append,List.nil_append,↓A8,↓Dc,↓Aq,↓Aj,↓Fc,↓Fb]
    rw [C6 h0 h3,Dx L.grid.top (L.grid.item (List.getElem?_eq_some_iff.mp hw).1),Dx (L.grid.row i w hw) hx]
    simp only [↓B3,and_self]
  rintro K rfl
  simp only [↓Ag,↓Bk,↓F5,↓Dp,↓A0,List.map_cons,List.map_nil,List.replicate_zero,List.cons_append,List.nil_append,↓B1,true_and,↓Aq,↓Aj]
  rw [C6 h0 h4]
  refine Wp.of_eq (a:=()) (H':=K.set ls (.dict (Gk es ((i:Int),(j:Int)) (.bool true)))) ?_ rfl
  unfold A3
  simp only [L.sinks]
  exact if_pos he
end
end Mine.Internal.Pure
namespace Mine.Internal.Pure
open PySem Pile
noncomputable def ent (l:Int) (k:Key):Val:=.tup [.int l,.tup [.int k.1,.int k.2]]
theorem Ig {l l':Int} {k k':Key} (h:ent l k=ent l' k'):l=l' /\ k=k':=by
  obtain ⟨a,b⟩:=k
  obtain ⟨c,d⟩:=k'
  unfold ent at h
  injection h with h
  injection h with h1 h2
  injection h1 with h1
  injection h2 with h2 _
  injection h2 with h2
  injection h2 with h2 h3
  injection h3 with h3 _
  injection h2 with h2
  injection h3 with h3
  exact ⟨h1,Prod.ext h2 h3⟩
theorem Us (l:Int) (k:Key):DC (ent l k):=⟨l,k.1,k.2,rfl⟩
theorem Ab2 {l l':Int} {k k':Key} (h:klt (ent l k) (ent l' k')=false):l' <= l:=by
  have h:Ho [l,k.1,k.2] [l',k'.1,k'.2]=false:=h
  rw [Cc] at h
  by_cases q:l < l'
  · rw [if_pos q] at h;cases h
  · exact Ae0 q
noncomputable def mx (a b:Int):Int:=if b > a then b else a
theorem Ae6 (a b:Int):a <= mx a b:=by
  unfold mx;by_cases q:b > a
  · rw [if_pos q];exact Int.le_of_lt q
  · rw [if_neg q];exact Int.le_refl _
theorem Agm (a b:Int):b <= mx a b:=by
  unfold mx;by_cases q:b > a
  · rw [if_pos q];exact Int.le_refl _
  · rw [if_neg q];exact Int.not_lt.mp q
theorem Agn {a b c:Int} (h1:a <= c) (h2:b <= c):mx a b <= c:=by
  unfold mx;by_cases q:b > a
  · rw [if_pos q];exact h2
  · rw [if_neg q];exact h1
theorem Om (a:Int) {b c:Int} (h:b <= c):mx a b <= mx a c:=Agn (Ae6 a c) (Int.le_trans h (Agm a c))
noncomputable def On (i j:Int):List Key:=[(i - 1,j),(i,j - 1),(i,j+1),(i+1,j)]
noncomputable def Adj (k q:Key):Prop:=q∈On k.1 k.2
theorem Adj.symm {k q:Key} (h:Adj k q):Adj q k:=by
  obtain ⟨i,j⟩:=k
  have h:q∈[(i - 1,j),(i,j - 1),(i,j+1),(i+1,j)]:=h
  rcases List.mem_cons.mp h with rfl | h
  · exact .tail _ (.tail _ (.tail _ (List.mem_singleton.mpr (by rw [Int.sub_add_cancel]))))
  rcases List.mem_cons.mp h with rfl | h
  · exact .tail _ (.tail _ (List.mem_cons.mpr (.inl (by rw [Int.sub_add_cancel]))))
  rcases List.mem_cons.mp h with rfl | h
  · exact .tail _ (List.mem_cons.mpr (.inl (by rw [Int.add_sub_cancel])))
  cases List.mem_singleton.mp h
  exact List.mem_cons.mpr (.inl (by rw [Int.add_sub_cancel]))
inductive Rc (h:Key -> Option Int) (D:Key -> Prop):Key -> Int -> Prop
  | drain {k:Key} {a:Int}:D k -> h k=some a -> Rc h D k a
  | step {p q:Key} {f a:Int}:Rc h D p f -> Adj p q -> h q=some a -> Rc h D q (mx a f)
theorem Rc.hi {h:Key -> Option Int} {D:Key -> Prop} {k:Key} {f:Int} (x:Rc h D k f):∃ a,h k=some a /\ a <= f:=by
  cases x with
  | drain d e=>exact ⟨_,e,Int.le_refl _⟩
  | step r n e=>exact ⟨_,e,Ae6 _ _⟩
theorem Rc.mono {h:Key -> Option Int} {D D':Key -> Prop} (i:∀ k,D k -> D' k) {k:Key} {f:Int} (x:Rc h D k f):Rc h D' k f:=by
  induction x with
  | drain d e=>exact .drain (i _ d) e
  | step r n e ih=>exact .step ih n e
structure Fl (h:Key -> Option Int) (D C:Key -> Prop) (O:Key -> Key -> Prop) (F:Key -> Option Int) (xs:List Val) (U:List Key) (m:Int):Prop where
  ents:∀ x∈xs,∃ l k,x=ent l k /\ m <= l /\ ∃ f,F k=some f /\ f <= l
  nd:xs.Nodup
  here:∀ k f,F k=some f -> k∈U -> ent f k∈xs
  done:∀ k f,F k=some f -> ¬ k∈U -> ¬ ent f k∈xs /\ f <= m
  seen:∀ k,C k -> ¬ k∈U -> F k≠none
  drain:∀ k,D k -> F k=h k
  snd:∀ k f,F k=some f -> Rc h D k f
  near:∀ p fp,F p=some fp -> ¬ p∈U -> ∀ q,Adj p q -> ¬ O p q -> ∀ a,h q=some a -> ∃ fq,F q=some fq /\ fq <= mx a fp
noncomputable def upd (F:Key -> Option Int) (q:Key) (v:Int) (k:Key):Option Int:=if k=q then some v else F k
theorem B6 (F:Key -> Option Int) (q:Key) (v:Int):upd F q v q=some v:=if_pos rfl
theorem Dy (F:Key -> Option Int) {q k:Key} (v:Int) (h:k≠q):upd F q v k=F k:=if_neg h
section
variable {h:Key -> Option Int} {D C:Key -> Prop} {O O':Key -> Key -> Prop} {F:Key -> Option Int} {xs:List Val} {U:List Key} {m:Int}
theorem Fl.perm {ys:List Val} (x:Fl h D C O F xs U m) (p:ys.Perm xs):Fl h D C O F ys U m :=
  ⟨fun y hy=>x.ents y (p.mem_iff.mp hy),p.nodup_iff.mpr x.nd,fun k f hf hk=>p.mem_iff.mpr (x.here k f hf hk),fun k f hf hk=>⟨fun q=>(x.done k f hf hk).1 (p.mem_iff.mp q),(x.done k f hf hk).2⟩,x.seen,x.drain,x.snd,x.near⟩
theorem Fl.start (hU:∀ k,C k -> k∈U):Fl h (fun _=>False) C O (fun _=>none) [] U 0 :=
  ⟨fun y hy=>(nomatch hy),List.nodup_nil,fun k f hf=>(nomatch hf),fun k f hf=>(nomatch hf),fun k hc hk=>absurd (hU k hc) hk,fun k hk=>False.elim hk,fun k f hf=>(nomatch hf),fun p fp hf=>nomatch hf⟩
theorem Ih {xs:List Val} {v:Val} (h:xs.Nodup) (n:¬ v∈xs):(xs++[v]).Nodup:=by
  rw [List.nodup_append]
  refine ⟨h,by simp,fun a ha b hb e=>?_⟩
  cases List.mem_singleton.mp hb
  exact n (e▸ha)
theorem Fl.opened {q:Key} {a:Int} (x:Fl h D C O F xs U 0) (all:∀ k,¬ k∈U -> F k=none) (hF:F q=none) (ha:h q=some a) (h0:0 <= a) (hq:q∈U):Fl h (fun k=>D k \/ k=q) C O (upd F q a) (xs++[ent a q]) U 0:=by
  have old:∀ k f,F k=some f -> k≠q:=fun k f hf e=>by rw [e,hF] at hf;cases hf
  have get:∀ k f,upd F q a k=some f -> (k=q /\ f=a) \/ (k≠q /\ F k=some f):=fun k f hf=>by
    by_cases e:k=q
    · rw [e,B6] at hf;cases hf;exact .inl ⟨e,rfl⟩
    · rw [Dy _ _ e] at hf;exact .inr ⟨e,hf⟩
  have no:¬ ent a q∈xs:=fun hx=>by
    refine ex2 (x.ents _ hx) fun l k zz=>An zz fun e _ zz=>ex1 zz fun f zz=>Ac zz fun hf _=>?_
    exact old k f hf (Ig e).2.symm
  refine ⟨fun y hy=>?_,Ih x.nd no,fun k f hf hk=>?_,fun k f hf hk=>?_,fun k hc hk=>?_,fun k hk=>?_,fun k f hf=>?_,fun p fp hf hp=>?_⟩
  · rcases List.mem_append.mp hy with hy | hy
    · refine ex2 (x.ents y hy) fun l k zz=>An zz fun e hl zz=>ex1 zz fun f zz=>Ac zz fun hf hle=>?_
      exact ⟨l,k,e,hl,f,by rw [Dy _ _ (old k f hf)];exact hf,hle⟩
    · cases List.mem_singleton.mp hy
      exact ⟨a,q,rfl,h0,a,B6 _ _ _,Int.le_refl _⟩
  · rcases get k f hf with ⟨rfl,rfl⟩ | ⟨_,hf⟩
    · exact List.mem_append.mpr (.inr (List.mem_singleton.mpr rfl))
    · exact List.mem_append.mpr (.inl (x.here k f hf hk))
  · rcases get k f hf with ⟨rfl,rfl⟩ | ⟨_,hf⟩
    · exact absurd hq hk
    · rw [all k hk] at hf;cases hf
  · intro e
    have:=x.seen k hc hk
    rw [all k hk] at this
    exact this rfl
  · by_cases e:k=q
    · rw [e,B6,ha]
    · rw [Dy _ _ e];exact x.drain k (hk.resolve_right e)
  · rcases get k f hf with ⟨rfl,rfl⟩ | ⟨_,hf⟩
    · exact .drain (.inr rfl) ha
    · exact (x.snd k f hf).mono fun _ d=>.inl d
  · rcases get p fp hf with ⟨rfl,rfl⟩ | ⟨_,hf⟩
    · exact absurd hq hp
    · rw [all p hp] at hf;cases hf
theorem Fl.stale {L:Int} {p:Key} {t:List Val} (x:Fl h D C O F (ent L p :: t) U m) (hF:F p≠some L):Fl h D C O F t U m:=by
  refine ⟨fun y hy=>x.ents y (.tail _ hy),(List.nodup_cons.mp x.nd).2,fun k f hf hk=>?_,fun k f hf hk=>⟨fun q=>(x.done k f hf hk).1 (.tail _ q),(x.done k f hf hk).2⟩,x.seen,x.drain,x.snd,x.near⟩
  rcases List.mem_cons.mp (x.here k f hf hk) with e | e
  · obtain ⟨rfl,rfl⟩:=Ig e
    exact absurd hf hF
  · exact e
theorem Fl.pop {L:Int} {p:Key} {t:List Val} (x:Fl h D C (fun _ _=>False) F (ent L p :: t) U m) (least:∀ y∈t,klt y (ent L p)=false) (hF:F p=some L) :
    p∈U /\ Fl h D C (fun p' _=>p'=p) F t (U.filter fun k=>decide (k≠p)) L:=by
  have hmem:∀ k,k∈U.filter (fun k=>decide (k≠p))↔(k∈U /\ k≠p):=fun k=>by rw [List.mem_filter,decide_eq_true_eq]
  have hp:p∈U:=Classical.byContradiction fun q=>(x.done p L hF q).1 (.head _)
  refine Af fun G kG=>?_
  obtain ⟨n1,n2⟩:=List.nodup_cons.mp x.nd
  refine ex2 (x.ents _ (.head _)) fun l0 k0 zz=>An zz fun e0 hl0 _=>?_
  obtain ⟨rfl,rfl⟩:=Ig e0
  refine kG ?_
  refine ⟨hp,fun y hy=>?_,n2,fun k f hf hk=>?_,fun k f hf hk=>?_,fun k hc hk=>?_,x.drain,x.snd,fun p' fp hf hk q hq ho a ha=>?_⟩
  · refine Af fun G kG=>?_
    refine ex2 (x.ents y (.tail _ hy)) fun l k zz=>An zz fun zr2 hl zz=>ex1 zz fun f zz=>Ac zz fun hf hle=>?_;subst zr2
    refine kG ?_
    exact ⟨l,k,rfl,Ab2 (least _ hy),f,hf,hle⟩
  · obtain ⟨hk,ne⟩:=(hmem k).mp hk
    rcases List.mem_cons.mp (x.here k f hf hk) with e | e
    · exact absurd (Ig e).2 ne
    · exact e
  · by_cases e:k=p
    · subst e
      rw [hF] at hf;cases hf
      exact ⟨n1,Int.le_refl _⟩
    · have hk':¬ k∈U:=fun q=>hk ((hmem k).mpr ⟨q,e⟩)
      obtain ⟨d1,d2⟩:=x.done k f hf hk'
      exact ⟨fun q=>d1 (.tail _ q),Int.le_trans d2 (by assumption)⟩
  · by_cases e:k=p
    · rw [e,hF];exact fun c=>nomatch c
    · exact x.seen k hc fun q=>hk ((hmem k).mpr ⟨q,e⟩)
  · have hk':¬ p'∈U:=fun q=>hk ((hmem p').mpr ⟨q,ho⟩)
    exact x.near p' fp hf hk' q hq (fun q=>q) a ha
theorem Fl.skip {L:Int} {p q:Key} (x:Fl h D C O F xs U m) (hO:∀ p' q',O p' q' -> O' p' q' \/ (p'=p /\ q'=q)) (hF:F p=some L) (hq:∀ a,h q=some a -> ∃ fq,F q=some fq /\ fq <= mx a L):Fl h D C O' F xs U m:=by
  refine ⟨x.ents,x.nd,x.here,x.done,x.seen,x.drain,x.snd,fun p' fp hf hp q' hq' ho a ha=>?_⟩
  by_cases o:O p' q'
  · obtain ⟨rfl,rfl⟩:=(hO p' q' o).resolve_left ho
    rw [hF] at hf;cases hf
    exact hq a ha
  · exact x.near p' fp hf hp q' hq' o a ha
theorem Fl.put {L a:Int} {p q:Key} (x:Fl h D C O F xs U L) (hO:∀ p' q',O p' q' -> O' p' q' \/ (p'=p /\ q'=q)) (hp:¬ p∈U) (hF:F p=some L) (hC:C q) (hA:Adj p q) (ha:h q=some a) (new:∀ f,F q=some f -> mx a L < f) :
    Fl h D C O' (upd F q (mx a L)) (xs++[ent (mx a L) q]) U L:=by
  have hL:=Agm a L
  have hqU:q∈U:=Classical.byContradiction fun n=>by
    cases hf:F q with
    | none=>exact x.seen q hC n hf
    | some f =>
      have t1:=(x.done q f hf n).2
      have t2:=new f hf
      exact Alw t2 hL t1
  have pq:p≠q:=fun e=>hp (e▸hqU)
  have get:∀ k f,upd F q (mx a L) k=some f -> (k=q /\ f=mx a L) \/ (k≠q /\ F k=some f):=fun k f hf=>by
    by_cases e:k=q
    · rw [e,B6] at hf;cases hf;exact .inl ⟨e,rfl⟩
    · rw [Dy _ _ e] at hf;exact .inr ⟨e,hf⟩
  have no:¬ ent (mx a L) q∈xs:=fun hx=>by
    refine Af fun G kG=>?_
    refine ex2 (x.ents _ hx) fun l k zz=>An zz fun e _ zz=>ex1 zz fun f zz=>Ac zz fun hf hle=>?_
    obtain ⟨e1,rfl⟩:=Ig e
    refine kG ?_
    have:=new f hf
    exact Alx this e1 hle
  refine ⟨fun y hy=>?_,Ih x.nd no,fun k f hf hk=>?_,fun k f hf hk=>?_,fun k hc hk=>?_,fun k hk=>?_,fun k f hf=>?_,fun p' fp hf hp' q' hq' ho b hb=>?_⟩
  · rcases List.mem_append.mp hy with hy | hy
    · refine Af fun G kG=>?_
      refine ex2 (x.ents y hy) fun l k zz=>An zz fun e hl zz=>ex1 zz fun f zz=>Ac zz fun hf hle=>?_
      refine kG ?_
      by_cases c:k=q
      · subst c
        exact ⟨l,k,e,hl,_,B6 _ _ _,by have:=new f hf;exact Afi this hle⟩
      · exact ⟨l,k,e,hl,f,by rw [Dy _ _ c];exact hf,hle⟩
    · cases List.mem_singleton.mp hy
      exact ⟨_,q,rfl,hL,_,B6 _ _ _,Int.le_refl _⟩
  · rcases get k f hf with ⟨rfl,rfl⟩ | ⟨_,hf⟩
    · exact List.mem_append.mpr (.inr (List.mem_singleton.mpr rfl))
    · exact List.mem_append.mpr (.inl (x.here k f hf hk))
  · rcases get k f hf with ⟨rfl,rfl⟩ | ⟨ne,hf⟩
    · exact absurd hqU hk
    · obtain ⟨d1,d2⟩:=x.done k f hf hk
      refine ⟨fun c=>?_,d2⟩
      rcases List.mem_append.mp c with c | c
      · exact d1 c
      · exact ne (Ig (List.mem_singleton.mp c)).2
  · by_cases c:k=q
    · rw [c,B6];exact fun c=>nomatch c
    · rw [Dy _ _ c];exact x.seen k hc hk
  · by_cases c:k=q
    · subst c
      have t0:=x.drain k hk
      rw [ha] at t0
      have t1:=new a t0
      have t2:=Ae6 a L
      exact (Afj t1 t2).elim
    · rw [Dy _ _ c];exact x.drain k hk
  · rcases get k f hf with ⟨rfl,rfl⟩ | ⟨_,hf⟩
    · exact .step (x.snd p L hF) hA ha
    · exact x.snd k f hf
  · rcases get p' fp hf with ⟨rfl,rfl⟩ | ⟨_,hf1⟩
    · exact absurd hqU hp'
    · by_cases o:O p' q'
      · obtain ⟨rfl,rfl⟩:=(hO p' q' o).resolve_left ho
        rw [hF] at hf1;cases hf1
        rw [ha] at hb;cases hb
        exact ⟨_,B6 _ _ _,Int.le_refl _⟩
      · refine ex1 (x.near p' fp hf1 hp' q' hq' o b hb) fun fq zz=>Ac zz fun h1 h2=>?_
        by_cases c:q'=q
        · subst c
          exact ⟨_,B6 _ _ _,by have:=new fq h1;exact Afi this h2⟩
        · exact ⟨fq,by rw [Dy _ _ c];exact h1,h2⟩
structure Lv (h:Key -> Option Int) (D:Key -> Prop) (F:Key -> Option Int):Prop where
  snd:∀ k f,F k=some f -> Rc h D k f
  low:∀ k f,Rc h D k f -> ∃ f',F k=some f' /\ f' <= f
theorem Fl.fin (x:Fl h D C (fun _ _=>False) F [] U m):Lv h D F:=by
  refine ⟨x.snd,fun k f r=>?_⟩
  induction r with
  | drain d e=>exact ⟨_,(x.drain _ d).trans e,Int.le_refl _⟩
  | @step p q f a r n e ih =>
    refine ex1 ih fun f' zz=>Ac zz fun h1 h2=>?_
    have hp:¬ p∈U:=fun c=>by cases x.here p f' h1 c
    refine ex1 (x.near p f' h1 hp q n (fun c=>c) a e) fun fq zz=>Ac zz fun h3 h4=>?_
    exact ⟨fq,h3,Int.le_trans h4 (Om a h2)⟩
theorem Lv.uniq {F':Key -> Option Int} (x:Lv h D F) (y:Lv h D F') (k:Key):F k=F' k:=by
  cases e:F k with
  | none =>
    cases e':F' k with
    | none=>rfl
    | some f =>
      refine ex1 (x.low k f (y.snd k f e')) fun g zz=>Ac zz fun h1 _=>?_
      rw [e] at h1;cases h1
  | some f =>
    refine ex1 (y.low k f (x.snd k f e)) fun g zz=>Ac zz fun h1 h2=>?_
    refine ex1 (x.low k g (y.snd k g h1)) fun g' zz=>Ac zz fun h3 h4=>?_
    rw [e] at h3;cases h3
    rw [h1,show f=g by exact Aly h2 h4]
theorem Lv.stone (x:Lv h D F) {k:Key} (e:h k=none):F k=none:=by
  cases e':F k with
  | none=>rfl
  | some f =>
    refine ex1 ((x.snd k f e').hi) fun a zz=>Ac zz fun h1 _=>?_
    rw [e] at h1;cases h1
theorem Lv.own (x:Lv h D F) {k:Key} (d:D k) {a:Int} (e:h k=some a):F k=some a:=by
  refine ex1 (x.low k a (.drain d e)) fun f zz=>Ac zz fun h1 h2=>?_
  refine ex1 ((x.snd k f h1).hi) fun b zz=>Ac zz fun h3 h4=>?_
  rw [e] at h3;cases h3
  rw [h1,show f=a by exact Alz h2 h4]
theorem Lv.up (x:Lv h D F) {k q:Key} {a fq:Int} (n:Adj k q) (e:h k=some a) (hq:F q=some fq):∃ f,F k=some f /\ f <= mx a fq:=x.low k _ (.step (x.snd q fq hq) n.symm e)
structure Lst (F:Key -> Option Int) (ks:List Key) (o:Option Int):Prop where
  non:o=none -> ∀ k∈ks,F k=none
  one:∀ l,o=some l -> (∃ k∈ks,F k=some l) /\ ∀ k∈ks,∀ f,F k=some f -> l <= f
end
end Mine.Internal.Pure
namespace Mine.Internal.Pure
open PySem
noncomputable def Oo:List (Nat × Nat):=[(1,30),(30,1),(5,5),(2,12),(2,30),(30,2),(6,7),(7,9)]
section
variable {T:Tab} {Φ:Funs} {Γ:Env'} {H:Hp} {Q:Val -> Hp -> Prop} {E:Nat -> Hp -> Prop} {d:Nat} {QS:Env' -> Hp -> Prop} {R:Val -> Hp -> Prop} {ES:Nat -> Env' -> Hp -> Prop}
theorem Xm (c:Int):∃ r k:Nat,(OkS r k /\ r * k <= 63) /\ ∀ (H:Hp),Wp (Ai T_09 (d+1) 10 [.int c]) H (fun v H'=>v=.tup [.int r,.int k] /\ Ext H H') NoE:=by
  by_cases q:Int.fmod (Int.fdiv c 20) 8=1
  · refine ex1 (Cr (Int.fdiv c 160) 8 (by decide)) fun j zz=>Ac zz fun hj lj=>?_
    have lj':j < Oo.length:=lj
    refine ⟨(Oo[j]).1,(Oo[j]).2,?_,fun H=>?_⟩
    · have:∀ p∈Oo,OkS p.1 p.2 /\ p.1 * p.2 <= 63:=by unfold OkS Oo;decide
      exact this _ (List.getElem_mem lj')
    · rw [As (g:=M1) rfl rfl,M1]
      simp only [List.map_cons,List.map_nil,List.replicate_zero,List.cons_append,List.nil_append,↓Ag,↓Bb,↓A2,↓Cf,↓A0,↓Aj,↓A8,↓H9,↓Jv,↓Q4,↓Ad,↓Bv,↓Bd,↓A9,↓E9,↓Ah,↓Dw,↓Ax,↓B1,↓F6]
      refine ⟨by decide,by decide,?_⟩
      rw [Cd q]
      refine ⟨by decide,by decide,?_⟩
      rw [show Int.fmod (Int.fdiv c 160) 8=(j:Int) from hj]
      refine Og (Al H _) (by exact Al0 lj) (v:=.tup [.int ((Oo[j]).1:Nat),.int ((Oo[j]).2:Nat)]) ?_ ⟨rfl,⟨_,rfl⟩⟩
      match j,lj with
      | 0,_=>rfl
      | 1,_=>rfl
      | 2,_=>rfl
      | 3,_=>rfl
      | 4,_=>rfl
      | 5,_=>rfl
      | 6,_=>rfl
      | 7,_=>rfl
  · refine ex1 (Cr c 4 (by decide)) fun i zz=>Ac zz fun hi li=>?_
    refine ex1 (Cr (Int.fdiv c 4) 5 (by decide)) fun j zz=>Ac zz fun hj lj=>?_
    refine ⟨1+i,1+j,⟨by unfold OkS;exact Al1 li lj,by have:=Nat.mul_le_mul (show 1+i <= 4 by exact Al2 li) (show 1+j <= 5 by exact Al3 lj);exact Al4 this⟩,fun H=>?_⟩
    rw [As (g:=M1) rfl rfl,M1]
    simp only [List.map_cons,List.map_nil,List.replicate_zero,List.cons_append,List.nil_append,↓Ag,↓Bb,↓A2,↓Cf,↓A0,↓Aj,↓A8,↓H9,↓Jv,↓Q4,↓Ad,↓Bv,↓Bd,↓A9,↓E9,↓Ah,↓Dw,↓Ax,↓B1,↓F6]
    refine ⟨by decide,by decide,?_⟩
    rw [Bn q]
    refine ⟨by decide,by decide,by decide,?_,Ext.refl H⟩
    rw [show Int.fmod c 4=(i:Int) from hi,show Int.fmod (Int.fdiv c 4) 5=(j:Int) from hj]
    rfl
theorem Ab3 {ns:List Int} {r c k:Nat} {x2 x3:Val} {a5:Option Val} (hS:OkS r c) (hk:k < r):wpE T_09 (Ai T_09 (d+2)) (.comp (.call 12 (.cons (.var 0) (.cons (.bin .add (.bin .mul (.var 4) (.sub (.var 1) (.int 1))) (.var 6)) .nil))) (.bf .range (.cons (.sub (.var 1) (.int 1)) .nil)) .none) [some (.script ns),some (.tup [.int (r:Int),.int (c:Int)]),some x2,some x3,some (.int (k:Int)),a5] H
    (fun v K=>∃ nums:List Val,v=.loc H.length /\ K=H++[.list nums] /\ nums.length=c /\ ∀ x∈nums,∃ n:Int,x=.int n) NoE:=by
  have hlid:lid=16777216:=rfl
  unfold OkS at hS
  refine M4 (xs:=L3 c) (src:=none) (fun _ v=>∃ n:Int,v=.int n) (Aem (by exact Al5 hS) ⟨rfl,rfl⟩) rfl (by rw [Lp];exact Al6 hS hlid) ?_ ?_
  · intro j x hx
    obtain ⟨hr0,lj⟩:=Px hx;refine Eq.symm hr0▸?_
    obtain ⟨n,hn⟩:=Q8 (d:=d) ns (k * c+j) (by have:=Nat.mul_le_mul (show k <= 29 by exact Ahh hS hk) (show c <= 30 by exact Afk hS);exact Al7 hS lj this)
    show wpE _ _ _ [some (.script ns),some (.tup [.int (r:Int),.int (c:Int)]),some x2,some x3,some (.int (k:Int)),a5,some (.int (j:Int))] _ _ _
    simp only [↓A1,↓Ah,↓Ax,↓A0,↓Cf,↓A9,↓A8,↓Dj,↓Aj,↓Aq,↓Fc,↓Iu,↓F6]
    refine ⟨by rw [F8 (by exact Ahi hS hk)];rfl,?_⟩
    rw [show (k:Int) * (c:Int)+(j:Int)=((k * c+j:Nat):Int) by rw [Int.natCast_add,Int.natCast_mul]]
    exact (hn H).then fun v H' h=>⟨⟨n,h.1⟩,h.2⟩
  · intro ys hl hp
    refine ⟨ys,rfl,rfl,hl.trans (Lp c),fun x hx=>?_⟩
    obtain ⟨j,hj⟩:=List.mem_iff_getElem?.mp hx
    exact hp j x hj
theorem Aeo {nums:List Val} {c l kind:Nat} {xs:List Val} {x0 x1 x4:Val} (hl:H[l]?=some (.list xs)) (xl:xs.length < 1000) (cl:c <= 1000) (ln:nums.length=c) (hn:∀ x∈nums,∃ n:Int,x=.int n)
    (q:∀ w:List Val,w.length=c -> (∀ v∈w,HV v) -> QS [some x0,some x1,some (.int (kind:Int)),some (.loc l),some x4,some (.loc H.length)] (((H++[HObj.list nums])++[HObj.list w]).set l (HObj.list (xs++[Val.loc (H.length+1)])))) :
    wpSs T_09 (Ai T_09 (d+2)) zT17 [some x0,some x1,some (.int (kind:Int)),some (.loc l),some x4,some (.loc H.length)] (H++[HObj.list nums]) QS R NoX:=by
  have hlid:lid=16777216:=rfl
  have e1:Ext H (H++[HObj.list nums]):=⟨_,rfl⟩
  refine Iv (fun K=>QS [some x0,some x1,some (.int (kind:Int)),some (.loc l),some x4,some (.loc H.length)] K) ?_ (fun K h=>h)
  refine Cw rfl (e1.get hl) ?_
  refine M4 (xs:=nums) (src:=some H.length) (fun _ v=>HV v) ⟨rfl,Bx (Al H _)⟩ (B4 (Al H _)) (by exact Al8 hlid ln cl) ?_ ?_
  · intro j x hx
    obtain ⟨n,rfl⟩:=hn x (zF hx)
    refine ex1 (Ael (d:=d+1) n kind (by exact Ni)) fun v zz=>Ac zz fun hv hw=>?_
    exact (hw _).then fun w H' h=>⟨h.1▸hv,h.2⟩
  · intro ys hl' hp
    refine ⟨_,Ext.get ⟨_,rfl⟩ (e1.get hl),by exact Acz xl hlid,?_⟩
    have:(H++[HObj.list nums]).length=H.length+1:=by rw [List.length_append];rfl
    rw [this]
    refine q ys (hl'.trans ln) fun x hx=>?_
    obtain ⟨j,hj⟩:=List.mem_iff_getElem?.mp hx
    exact hp j x hj
theorem Ab4 {K:Hp} {l c k:Nat} {g:List (List Val)} {w nums:List Val} (og:OkG g k c) (G:GAt K l (l+2) 2 g) (hK:K.length=l+1+2 * k) (lw:w.length=c) (hw:∀ v∈w,HV v) :
    OkG (g++[w]) (k+1) c /\ GAt (((K++[HObj.list nums])++[HObj.list w]).set l (HObj.list ((List.range g.length).map (fun i=>Val.loc (l+2+2 * i))++[Val.loc (K.length+1)]))) l (l+2) 2 (g++[w]):=by
  have lK:(K++[HObj.list nums]).length=K.length+1:=by rw [List.length_append];rfl
  have e2:Ext K (K++[HObj.list nums]++[HObj.list w]):=⟨[HObj.list nums,HObj.list w],by rw [List.append_assoc];rfl⟩
  refine ⟨⟨by rw [List.length_append,og.len];rfl,fun i z h=>?_⟩,⟨?_,fun i z h=>?_⟩⟩
  · rcases Uq h with h | ⟨_,rfl⟩
    · exact og.row i z h
    · exact ⟨lw,hw⟩
  · rw [Bo _ (e2.get G.top),List.length_append,List.length_singleton,List.range_succ,List.map_append,List.map_singleton,og.len,hK,show l+1+2 * k+1=l+2+2 * k by exact Al9]
  · rcases Uq h with h | ⟨rfl,rfl⟩
    · exact Ay _ (by exact Ahj) (e2.get (G.row i z h))
    · refine Ay _ (by exact Ahj) ?_
      have:=Al (K++[HObj.list nums]) (.list z)
      rw [lK,hK] at this
      rw [og.len,show l+2+2 * k=l+1+2 * k+1 by exact Ama]
      exact this
inductive GInv (x0 x1 x2:Val) (l c:Nat):Nat -> Env' -> Hp -> Prop
  | mk {k:Nat} {K:Hp} (g:List (List Val)) (a b:Option Val) (og:OkG g k c) (G:GAt K l (l+2) 2 g) (hK:K.length=l+1+2 * k):GInv x0 x1 x2 l c k [some x0,some x1,some x2,some (.loc l),a,b] K
theorem Xn (ns:List Int):Wp (Ai T_09 (d+3) 13 [.script ns]) H (fun v H'=>∃ r c g l,v=.loc l /\ OkS r c /\ r * c <= 63 /\ OkG g r c /\ GAt H' l (l+2) 2 g) NoE:=by
  refine Af fun G kG=>?_
  refine ex2 (Xm (d:=d+1) (J0 ns 0)) fun r c zz=>Ac zz fun zn2 hsz=>?_;obtain ⟨hS,hrc⟩:=zn2
  refine kG ?_
  have hS':=hS
  unfold OkS at hS'
  rw [As (g:=Yz) rfl rfl]
  refine Au (fun v H'=>v=.tup [.int r,.int c] /\ Ext H H') ?_ ?_
  · show Wp (Ai T_09 (d+2) 8 [.script ns,.int ((0:Nat):Int)]) H _ _
    rw [Gh]
    exact hsz H
  clear hsz
  rintro _ H1 ⟨rfl,e1⟩
  refine Au (fun v K=>∃ k:Nat,v=.int k /\ H1=K) ?_ ?_
  · show Wp (Ai T_09 (d+2) 8 [.script ns,.int ((1:Nat):Int)]) H1 _ _
    rw [Gh]
    refine ex1 (Cr (J0 ns 1) 4 (by decide)) fun k zz=>Ac zz fun hk _=>?_
    exact ⟨by decide,k,congrArg Val.int hk,rfl⟩
  rintro _ _ ⟨kind,rfl,rfl⟩
  refine Au (fun v K=>v=.loc H1.length /\ K=H1++[.list []]) ⟨rfl,rfl⟩ ?_
  rintro _ _ ⟨rfl,rfl⟩
  obtain ⟨I,hI⟩:=Dr (GInv (.script ns) (.tup [.int r,.int c]) (.int kind) H1.length c)
  refine D9 (I r) ?_ ?_
  · refine Dk (n:=r) I ⟨rfl,rfl⟩ ⟨by exact Ahk hS',by exact Ahl hS'⟩ ((hI _ _ _).mpr (.mk [] _ _ ⟨rfl,fun i w h=>nomatch h⟩ ⟨Al H1 _,fun i w h=>nomatch h⟩ (by rw [List.length_append];rfl))) ?_ (fun Γ K h=>by rw [Int.toNat_natCast] at h;exact h)
    intro k Γ K hk h
    obtain ⟨g,a,b,og,G,hK⟩:=(hI _ _ _).mp h
    refine Au _ (Ab3 hS (by exact X9 hk)) ?_
    intro _ K1 zz
    refine ex1 zz fun nums zz=>Cm zz fun zr1 zr2 ln hn=>?_;subst zr1;subst zr2
    refine Aeo G.top (by rw [List.length_map,List.length_range,og.len];exact Amc hk hS') (by exact Amd hS' ln) ln hn fun w lw hw=>(hI _ _ _).mpr ?_
    obtain ⟨og',G'⟩:=Ab4 (nums:=nums) og G hK lw hw
    exact .mk _ _ _ og' G' (by rw [List.length_set,List.length_append,List.length_append,hK];show _+1+1=_;exact Ame)
  intro Γ K h
  refine Af fun G kG=>?_
  obtain ⟨g,a,b,og,G,_⟩:=(hI _ _ _).mp h
  refine kG ?_
  exact ⟨r,c,g,_,rfl,hS,hrc,og,G⟩
theorem Xo {a b:Nat} {xs:List Val} {ds:List PyData} (ha:H[a]?=some (.list xs)) (hb:H[b]?=some (.list xs)) (hd:I1 (A5 H 5) xs=some ds) (hq:PyData.eqv (.list ds) (.list ds)=true):G9 H (.loc a) (.loc b)=some true:=by
  have e:∀ c,H[c]?=some (.list xs) -> A5 H Fi (.loc c)=some (.list ds):=fun c hc=>by
    have:A5 H (5+1) (.loc c)=(match H[c]? with | some (.list xs)=>(I1 (A5 H 5) xs).map .list | _=>none):=rfl
    show A5 H (5+1) (.loc c)=_
    rw [this,hc]
    show (I1 (A5 H 5) xs).map PyData.list=_
    rw [hd];rfl
  unfold G9
  rw [e a ha,e b hb]
  show some (PyData.eqv _ _)=_
  rw [hq]
theorem Apc {l b s r c:Nat} {g:List (List Val)} (hS:OkS r c) (og:OkG g r c) (G:GAt H l b s g):∃ w x,g[0]?=some w /\ w[0]?=some x /\ HV x /\ w.length=c /\ ((List.range g.length).map fun i=>Val.loc (b+s * i))[0]?=some (.loc b) /\ H[b]?=some (.list w):=by
  unfold OkS at hS
  have lt:0 < g.length:=by rw [og.len];exact Ahf hS
  have hg:g[0]?=some g[0]:=List.getElem?_eq_getElem lt
  obtain ⟨lw,hw⟩:=og.row 0 _ hg
  have lt':0 < g[0].length:=by exact Amf hS lt lw
  have hx:g[0][0]?=some g[0][0]:=List.getElem?_eq_getElem lt'
  exact ⟨g[0],g[0][0],hg,hx,hw _ (zF hx),lw,G.item lt,G.row 0 _ hg⟩
theorem LandAt.sink {o r c lg b s ls:Nat} {g:List (List Val)} {es es':List (Key × Val)} (L:LandAt H o r c lg b s ls g es):LandAt (H.set ls (.dict es')) o r c lg b s ls g es':=by
  refine ex1 L.inst fun fs zz=>Ac zz fun h0 h=>?_
  have hs:=L.sinks
  exact ⟨⟨fs,Ay _ (fun q=>by rw [q,h0] at hs;cases hs) h0,h⟩,L.grid.other _ (fun q=>by have:=L.grid.top;rw [<- q,hs] at this;cases this) (fun i hi q=>by have:=L.grid.row i _ (List.getElem?_eq_getElem hi);rw [<- q,hs] at this;cases this),Bo _ hs⟩
theorem Gi {l b s r c:Nat} {g:List (List Val)} (og:OkG g r c):((List.range g.length).map fun i=>Val.loc (b+s * i)).length=r:=by rw [List.length_map,List.length_range,og.len]
end
end Mine.Internal.Pure
namespace Mine.Internal.Pure
open PySem Pile
theorem Ls (es:List (Key × Val)) (k:Key) (v:Val) (k':Key):Ec (Gk es k v) k'=if k'=k then some v else Ec es k':=by
  unfold Ec
  induction es with
  | nil =>
    show List.lookup k' [(k,v)]=_
    rw [List.lookup_cons]
    by_cases q:k'=k
    · rw [if_pos q,q,beq_self_eq_true]
    · rw [if_neg q,beq_eq_false_iff_ne.mpr q]
  | cons e es ih =>
    obtain ⟨a,b⟩:=e
    have st:Gk ((a,b) :: es) k v=if a=k then (a,v) :: es else (a,b) :: Gk es k v:=rfl
    rw [st]
    by_cases q:a=k
    · refine q▸?_
      rw [if_pos rfl,List.lookup_cons,List.lookup_cons]
      by_cases c:k'=a
      · rw [if_pos c,c,beq_self_eq_true]
      · rw [if_neg c,beq_eq_false_iff_ne.mpr c]
    · rw [if_neg q,List.lookup_cons,List.lookup_cons,ih]
      by_cases c:k'=a
      · rw [c,beq_self_eq_true]
        exact (if_neg q).symm
      · rw [beq_eq_false_iff_ne.mpr c]
theorem Fe (es:List (Key × Val)) (k:Key) (v:Val):(Gk es k v).length <= es.length+1:=by
  induction es with
  | nil=>exact zI _
  | cons e es ih =>
    obtain ⟨a,b⟩:=e
    have st:Gk ((a,b) :: es) k v=if a=k then (a,v) :: es else (a,b) :: Gk es k v:=rfl
    rw [st]
    by_cases q:a=k
    · rw [if_pos q];exact Nat.le_succ _
    · rw [if_neg q];exact Nat.succ_le_succ ih
noncomputable def Has (es:List (Key × Val)) (F:Key -> Option Int):Prop:=∀ k,Ec es k=(F k).map Val.int
theorem Has.put {es:List (Key × Val)} {F:Key -> Option Int} (h:Has es F) (q:Key) (v:Int):Has (Gk es q (.int v)) (upd F q v):=by
  intro k
  rw [Ls]
  by_cases c:k=q
  · rw [if_pos c,c,B6];rfl
  · rw [if_neg c,Dy _ _ c];exact h k
section
variable {T:Tab} {Φ:Funs} {Γ:Env'} {H:Hp} {Q:Val -> Hp -> Prop} {E:Nat -> Hp -> Prop} {d l:Nat} {QS:Env' -> Hp -> Prop} {R:Val -> Hp -> Prop} {ES:Nat -> Env' -> Hp -> Prop}
theorem G7 {l:Nat} {es:List (Key × Val)} {i j:Int} {v:Val} (h:H[l]?=some (.dict es)) (hv:Ec es (i,j)=some v):Wp (De (.loc l) (.tup [.int i,.int j])) H Q E=Q v H:=by
  have:De (.loc l) (.tup [.int i,.int j]) H=.ok v H:=by
    unfold De;rw [Db]
    simp only [h]
    rw [show (Er (.tup [.int i,.int j])).bind (Ec es)=Ec es (i,j) from rfl,hv]
  unfold Wp;rw [this]
theorem Gd {l:Nat} {es:List (Key × Val)} {i j:Int} {v:Val} {Q:Unit -> Hp -> Prop} (h:H[l]?=some (.dict es)) (hl:es.length < lid):Wp (A3 (.loc l) (.tup [.int i,.int j]) v) H Q E=Q () (H.set l (.dict (Gk es (i,j) v))):=by
  have:A3 (.loc l) (.tup [.int i,.int j]) v H=.ok () (H.set l (.dict (Gk es (i,j) v))):=by
    unfold A3;simp only [h]
    exact if_pos hl
  unfold Wp;rw [this]
theorem D3 {l:Nat} {es:List (Key × Val)} {i j:Int} (h:H[l]?=some (.dict es)):Dl .notin (.tup [.int i,.int j]) (.loc l) H=some (!(Ec es (i,j)).isSome):=by
  have e:Dl .notin (.tup [.int i,.int j]) (.loc l) H=Yb true (inV (.tup [.int i,.int j]) (.loc l) H):=rfl
  rw [e]
  unfold inV
  simp only [h]
  rfl
noncomputable def inR (r c:Nat) (k:Key):Bool:=decide (0 <= k.1 /\ k.1 < r /\ 0 <= k.2 /\ k.2 < c)
theorem Ea {r c:Nat} {k:Key} (h:inR r c k=true):∃ i j:Nat,k=((i:Int),(j:Int)) /\ i < r /\ j < c:=by
  obtain ⟨a,b⟩:=k
  have h:0 <= a /\ a < r /\ 0 <= b /\ b < c:=of_decide_eq_true h
  exact ⟨a.toNat,b.toNat,Prod.ext (show a=(a.toNat:Int) by exact Amg h) (show b=(b.toNat:Int) by exact Amh h),by exact Ami h,by exact Amj h⟩
theorem J1 {r c i j:Nat} (hi:i < r) (hj:j < c):inR r c ((i:Int),(j:Int))=true:=decide_eq_true (show 0 <= (i:Int) /\ (i:Int) < r /\ 0 <= (j:Int) /\ (j:Int) < c by exact Amk hi hj)
noncomputable def Aie (g:List (List Val)) (k:Key):Option Val:=(g[k.1.toNat]?).bind fun w=>w[k.2.toNat]?
noncomputable def Apd:Option Val -> Option Int
  | some (.int i)=>some i
  | _=>none
noncomputable def hgt (g:List (List Val)) (r c:Nat) (k:Key):Option Int:=if inR r c k=true then Apd (Aie g k) else none
theorem Gu {g:List (List Val)} {r c:Nat} {k:Key} {a:Int} (h:hgt g r c k=some a):inR r c k=true:=by
  unfold hgt at h
  by_cases q:inR r c k=true
  · exact q
  · rw [if_neg q] at h;cases h
theorem Fj {g:List (List Val)} {r c i j:Nat} (og:OkG g r c) (hi:i < r) (hj:j < c):∃ w x,g[i]?=some w /\ w[j]?=some x /\ ((x=.none /\ hgt g r c ((i:Int),(j:Int))=none) \/ ∃ n,x=.int n /\ 0 <= n /\ hgt g r c ((i:Int),(j:Int))=some n):=by
  refine Af fun G kG=>?_
  obtain ⟨w,hw⟩:∃ w,g[i]?=some w:=⟨_,List.getElem?_eq_getElem (by rw [og.len];exact hi)⟩
  obtain ⟨lw,hv⟩:=og.row i _ hw
  obtain ⟨x,hx⟩:∃ x,w[j]?=some x:=⟨_,List.getElem?_eq_getElem (by rw [lw];exact hj)⟩
  refine kG ?_
  have e:Aie g ((i:Int),(j:Int))=some x:=by
    show (g[((i:Int)).toNat]?).bind (fun w=>w[((j:Int)).toNat]?)=_
    rw [Int.toNat_natCast,Int.toNat_natCast,hw]
    exact hx
  refine ⟨w,x,hw,hx,?_⟩
  unfold hgt
  rw [if_pos (J1 hi hj),e]
  rcases hv _ (zF hx) with q | ⟨n,q,h0,_⟩
  · rw [q];exact .inl ⟨rfl,rfl⟩
  · rw [q];exact .inr ⟨n,rfl,h0,rfl⟩
noncomputable def bes (r c:Nat) (i j:Int):List Key:=(On i j).filter (inR r c)
theorem Ut {i j:Int} {q:Key}:q∈On i j↔Adj (i,j) q:=Iff.rfl
theorem Ii {r c:Nat} {i j:Int} {q:Key}:q∈bes r c i j↔(Adj (i,j) q /\ inR r c q=true):=by
  unfold bes;rw [List.mem_filter,Ut]
theorem Uu (r c:Nat) (i j:Int):(bes r c i j).length <= 4:=List.length_filter_le _ _
theorem Kt {x lo hi:Int}:Wp (Ai T_09 (d+1) 0 [.int x,.int lo,.int hi]) H Q E=Q (.bool (decide (lo <= x /\ x <= hi))) H:=by
  rw [As (g:=Q6) rfl rfl,Q6]
  simp only [List.map_cons,List.map_nil,List.replicate_zero,List.cons_append,List.nil_append,↓Ag,↓Bb,↓Eo,↓C8,↓Cl,↓A0,↓Aj,↓Ew,↓Ad,↓E8,↓Ce,↓D8,↓C4,↓B1,↓Bv,↓Bd,↓H7,↓Aq,↓T3]
  by_cases h1:lo <= x
  · rw [Cd h1,show decide (x <= hi)=decide (lo <= x /\ x <= hi) from decide_eq_decide.mpr ⟨fun h=>⟨h1,h⟩,fun h=>h.2⟩]
  · rw [Bn h1,show decide (lo <= x /\ x <= hi)=false from decide_eq_false fun h=>h1 h.1]
theorem Uv {r c:Nat} {i j:Int}:Wp (Ai T_09 (d+2) 1 [.int (r:Int),.int (c:Int),.tup [.int i,.int j]]) H Q E=Q (.bool (inR r c (i,j))) H:=by
  rw [As (g:=Oi) rfl rfl,Oi]
  simp only [List.map_cons,List.map_nil,List.replicate_zero,List.cons_append,List.nil_append,↓Ag,↓Bb,↓Eo,↓C8,↓Cl,↓A0,↓Aq,↓Aj,↓Ex,↓Ad,↓E8,↓Ce,↓A2,↓Dq,↓Ah,↓Ax,↓D2,↓A8,↓Oe,↓B1,↓Bv,↓Bd,↓Ei,↓A1,↓A9,↓Fb,↓Cf,↓My,↓Fc,↓F5]
  rw [Kt,Ad]
  have e:∀ b,b=inR r c (i,j) -> Q (.bool b) H=Q (.bool (inR r c (i,j))) H:=fun b h=>by rw [h]
  rw [Cd (show (([Val.int i,Val.int j].length:Nat):Int)=2 from rfl)]
  by_cases h1:0 <= i /\ i <= (r:Int) - 1
  · rw [Cd h1,Kt]
    exact e _ (decide_eq_decide.mpr ⟨fun h=>⟨by exact Ahm h1,by exact Ahn h1,by exact Ahm h,by exact Ahn h⟩,fun h=>⟨by have:=h.2.2.1;assumption,by have:=h.2.2.2;exact Aho h⟩⟩)
  · rw [Bn h1]
    exact e _ (decide_eq_false fun h=>h1 ⟨h.1,by have:=h.2.1;exact Ahp h⟩).symm
theorem G8 {ks:List Key} {n:Nat} {x:Val} (h:(ks.map Aa)[n]?=some x):∃ q,ks[n]?=some q /\ x=Aa q:=by
  rw [List.getElem?_map] at h
  cases e:ks[n]? with
  | none=>rw [e] at h;cases h
  | some q=>rw [e] at h;cases h;exact ⟨q,rfl,rfl⟩
theorem Uw {it c:ME} {ks:List Key} {p:Key -> Bool} {n:Nat} (hn:Γ.length=n) (hl:H[l]?=some (.list (ks.map Aa))) (kl:ks.length < 1000) (hit:wpE T Φ it Γ H (fun v H'=>v=.loc l /\ H'=H) NoE)
    (ht:∀ q∈ks,wpE T Φ c (Γ++[some (Aa q)]) H (fun v H'=>v=.bool (p q) /\ H'=H) NoE) (q:Q (.loc H.length) (H++[.list ((ks.filter p).map Aa)])):wpE T Φ (.comp (.var n) it (.some c)) Γ H Q E:=by
  have hlid:lid=16777216:=rfl
  refine Li (A4 hit ?_)
  rintro v H' ⟨rfl,rfl⟩
  rw [Bj (Bx hl)]
  refine I5 (fun k out K=>K=H' /\ out=((ks.take k).filter p).map Aa) ⟨rfl,rfl⟩ ?_ ?_ ?_
  · rintro k out K ⟨hr0,_⟩;refine Eq.symm hr0▸?_;exact B4 hl
  · rintro k x out K hx ⟨rfl,rfl⟩
    refine ex1 (G8 hx) fun q zz=>Ac zz fun hq zr2=>?_;subst zr2
    refine wp_step (A4 (ht q (zF hq)) ?_)
    rintro v K' ⟨rfl,rfl⟩
    rw [Ad,Ez hq,List.filter_append,List.map_append]
    refine B8 (fun h=>?_) (fun h=>?_)
    · rw [List.filter_cons_of_pos h,A0,Eh,List.getElem?_append_right (by exact Ahc hn),hn,Nat.sub_self]
      exact ⟨rfl,rfl⟩
    · rw [List.filter_cons_of_neg (by rw [h];exact Bool.false_ne_true)]
      exact ⟨rfl,rfl⟩
  · rintro zs K ⟨rfl,rfl⟩
    rw [show ks.take (List.map Aa ks).length=ks by rw [List.length_map];exact List.take_length]
    refine ⟨?_,q⟩
    rw [List.length_map]
    have:=List.length_filter_le p ks
    exact Aml kl hlid this
theorem Ku {r c:Nat} {i j:Int}:Wp (Ai T_09 (d+3) 2 [.int (r:Int),.int (c:Int),.tup [.int i,.int j]]) H (fun v H'=>∃ m,v=.loc m /\ H.length <= m /\ Ext H H' /\ H'[m]?=some (.list ((bes r c i j).map Aa))) NoE:=by
  rw [As (g:=Abo) rfl rfl,Abo]
  show wpE T_09 (Ai T_09 (d+2)) (.comp (.var 6) (.var 5) (.some (.call 1 (.cons (.var 0) (.cons (.var 1) (.cons (.var 6) .nil)))))) [some (.int (r:Int)),some (.int (c:Int)),some (.tup [.int i,.int j]),some (.int i),some (.int j),some (.loc H.length)] (H++[HObj.list ((On i j).map Aa)]) _ _
  have e0:Ext H (H++[HObj.list ((On i j).map Aa)]):=⟨_,rfl⟩
  refine Uw (l:=H.length) (ks:=On i j) (p:=inR r c) rfl (Al H _) (show 4 < 1000 by decide) ⟨rfl,rfl⟩ (fun q _=>?_) ⟨_,rfl,by rw [List.length_append];exact Ahg,e0.new _,Al _ _⟩
  show Wp (Ai T_09 (d+2) 1 [.int (r:Int),.int (c:Int),.tup [.int q.1,.int q.2]]) _ _ _
  rw [Uv]
  exact ⟨rfl,rfl⟩
end
structure FS (H K:Hp) (lf lo lp lh:Nat) (es gs:List (Key × Val)) (xs:List Val):Prop where
  ext:Ext H K
  bf:H.length <= lf
  bo:H.length <= lo
  bh:H.length <= lh
  ne:lf≠lo
  f:K[lf]?=some (.dict es)
  o:K[lo]?=some (.dict gs)
  p:K[lp]?=some (.inst 8 [(4,.loc lh)])
  h:K[lh]?=some (.list xs)
section
variable {H K:Hp} {lf lo lp lh:Nat} {es gs:List (Key × Val)} {xs:List Val}
theorem FS.more {K':Hp} (x:FS H K lf lo lp lh es gs xs) (e:Ext K K'):FS H K' lf lo lp lh es gs xs:=⟨x.ext.trans e,x.bf,x.bo,x.bh,x.ne,e.get x.f,e.get x.o,e.get x.p,e.get x.h⟩
theorem Cg {K:Hp} {a b:Nat} {o o':HObj} (h:K[a]?=some o) (h':K[b]?=some o') (n:o≠o'):a≠b:=fun e=>n (Option.some.inj (by rw [<- h,<- h',e]))
theorem FS.setF (x:FS H K lf lo lp lh es gs xs) (es':List (Key × Val)):FS H (K.set lf (.dict es')) lf lo lp lh es' gs xs :=
  ⟨x.ext.set x.bf _,x.bf,x.bo,x.bh,x.ne,Bo _ x.f,Ay _ x.ne x.o,Ay _ (Cg x.f x.p (by intro c;cases c)) x.p,Ay _ (Cg x.f x.h (by intro c;cases c)) x.h⟩
theorem FS.setO (x:FS H K lf lo lp lh es gs xs) (gs':List (Key × Val)):FS H (K.set lo (.dict gs')) lf lo lp lh es gs' xs :=
  ⟨x.ext.set x.bo _,x.bf,x.bo,x.bh,x.ne,Ay _ (Ne.symm x.ne) x.f,Bo _ x.o,Ay _ (Cg x.o x.p (by intro c;cases c)) x.p,Ay _ (Cg x.o x.h (by intro c;cases c)) x.h⟩
theorem FS.setH (x:FS H K lf lo lp lh es gs xs) (ys:List Val):FS H (K.set lh (.list ys)) lf lo lp lh es gs ys :=
  ⟨x.ext.set x.bh _,x.bf,x.bo,x.bh,x.ne,Ay _ (Cg x.h x.f (by intro c;cases c)) x.f,Ay _ (Cg x.h x.o (by intro c;cases c)) x.o,Ay _ (Cg x.h x.p (by intro c;cases c)) x.p,Bo _ x.h⟩
theorem FS.only {K':Hp} {ys:List Val} (x:FS H K lf lo lp lh es gs xs) (o:Only lh K K') (h:K'[lh]?=some (.list ys)):FS H K' lf lo lp lh es gs ys :=
  ⟨Zf fun m ob hm=>o.keep m ob (by have t1:=Bw hm;have t2:=x.bh;exact Ahq t1 t2) (x.ext.get hm),x.bf,x.bo,x.bh,x.ne,o.keep _ _ (Cg x.f x.h (by intro c;cases c)) x.f,o.keep _ _ (Cg x.o x.h (by intro c;cases c)) x.o,o.keep _ _ (Cg x.p x.h (by intro c;cases c)) x.p,h⟩
theorem FS.lt (x:FS H K lf lo lp lh es gs xs):lh < K.length:=Bw x.h
end
noncomputable def Gj (r c:Nat):List Key:=(List.range r).flatMap fun (i:Nat)=>(List.range c).map fun (j:Nat)=>((i:Int),(j:Int))
theorem Ij (r c:Nat):(Gj r c).map Aa=cells r c:=by
  unfold Gj cells B5
  rw [List.map_flatMap]
  congr 1
  funext i
  rw [List.map_map];rfl
theorem Ff (r c:Nat):(Gj r c).length=r * c:=by
  rw [<- Ht,<- Ij,List.length_map]
theorem Cs {r c:Nat} {k:Key}:k∈Gj r c↔inR r c k=true:=by
  unfold Gj
  constructor
  · intro h
    refine ex1 (List.mem_flatMap.mp h) fun i zz=>Ac zz fun hi h=>?_
    refine ex1 (List.mem_map.mp h) fun j zz=>Ac zz fun hj zr2=>?_;subst zr2
    exact J1 (List.mem_range.mp hi) (List.mem_range.mp hj)
  · intro h
    refine ex2 (Ea h) fun i j zz=>An zz fun zr2 hi hj=>?_;subst zr2
    exact List.mem_flatMap.mpr ⟨i,List.mem_range.mpr hi,List.mem_map.mpr ⟨j,List.mem_range.mpr hj,rfl⟩⟩
theorem E0 {a b:Key} (h:Aa a=Aa b):a=b:=by
  have:Er (Aa a)=Er (Aa b):=by rw [h]
  exact Option.some.inj this
theorem Ux (i c:Nat):(B5 i c).Nodup:=by
  induction c with
  | zero=>exact List.nodup_nil
  | succ c ih =>
    rw [Hs]
    refine Ih ih fun h=>?_
    unfold B5 at h
    refine ex1 (List.mem_map.mp h) fun j zz=>Ac zz fun hj e=>?_
    have t0:=E0 (a:=((i:Int),(j:Int))) (b:=((i:Int),(c:Int))) e
    have t1:=(Prod.mk.inj t0).2
    have t2:=List.mem_range.mp hj
    exact Ahr t1 t2
theorem J2 (r c:Nat):(cells r c).Nodup:=by
  induction r with
  | zero=>exact List.nodup_nil
  | succ r ih =>
    rw [Ie,List.nodup_append]
    refine ⟨ih,Ux r c,fun a ha b hb e=>?_⟩
    refine ex2 (Lr ha) fun i j zz=>An zz fun zr2 hi _=>?_;subst zr2
    unfold B5 at hb
    refine ex1 (List.mem_map.mp hb) fun j' zz=>Ac zz fun _ zr2=>?_;subst zr2
    have:=E0 (a:=((i:Int),(j:Int))) (b:=((r:Int),(j':Int))) e
    have:=(Prod.mk.inj this).1
    exact Ahr this hi
theorem Xp {α:Type} {l:List α} {n:Nat} {x:α} (h:l.Nodup) (hx:l[n]?=some x):¬ x∈l.take n:=by
  intro c
  obtain ⟨m,hm⟩:=List.mem_iff_getElem?.mp c
  have lm:m < n:=by
    have:=(List.getElem?_eq_some_iff.mp hm).1
    rw [List.length_take] at this;exact Amm this
  rw [List.getElem?_take_of_lt lm] at hm
  obtain ⟨l1,e1⟩:=List.getElem?_eq_some_iff.mp hx
  obtain ⟨l2,e2⟩:=List.getElem?_eq_some_iff.mp hm
  have:=(List.getElem_inj (h₀:=l2) (h₁:=l1) h).mp (by rw [e1,e2])
  exact o25 lm this
theorem Uy {p:Key} {U:List Key} (h:p∈U):(U.filter fun k=>decide (k≠p)).length+1 <= U.length:=by
  have:=List.length_filter_lt_length_iff_exists (p:=fun k=>decide (k≠p)) (l:=U)
  have:=this.mpr ⟨p,h,by simp⟩
  exact Ahs this
theorem Bg {α:Type} {l:List α} {n:Nat} {x y:α} (h:l[n]?=some x):y∈l.take (n+1)↔(y∈l.take n \/ y=x):=by
  rw [Ez h,List.mem_append,List.mem_singleton]
theorem Fl.close {h:Key -> Option Int} {D C:Key -> Prop} {O O':Key -> Key -> Prop} {F:Key -> Option Int} {xs:List Val} {U:List Key} {m:Int} (x:Fl h D C O F xs U m) (hc:∀ p q a,O p q -> Adj p q -> h q=some a -> False):Fl h D C O' F xs U m :=
  ⟨x.ents,x.nd,x.here,x.done,x.seen,x.drain,x.snd,fun p fp hf hp q hq _ a ha=>by
    by_cases o:O p q
    · exact (hc p q a o hq ha).elim
    · exact x.near p fp hf hp q hq o a ha⟩
theorem Fl.dc {h:Key -> Option Int} {D C:Key -> Prop} {O:Key -> Key -> Prop} {F:Key -> Option Int} {xs:List Val} {U:List Key} {m:Int} (x:Fl h D C O F xs U m):∀ y∈xs,DC y:=fun y hy=>by
  refine ex2 (x.ents y hy) fun l k zz=>Ac zz fun hr0 _=>?_;refine Eq.symm hr0▸?_
  exact Us l k
section
variable {H K:Hp} {d:Nat} {QS:Env' -> Hp -> Prop} {R:Val -> Hp -> Prop} {o r c lg b s ls lf lo lp lh:Nat} {g:List (List Val)} {es0 es gs:List (Key × Val)} {xs:List Val} {D:Key -> Prop} {F:Key -> Option Int} {U:List Key} {L m:Int} {x4 x5 x6 x7 x8:Option Val}
theorem Xq {i j:Nat} {p:Key} {v:Int} (x:FS H K lf lo lp lh es gs xs) (dc:∀ y∈xs,DC y) (pile:Bl klt xs) (n1:xs.length < 1000) (n2:es.length < 2000) (n3:gs.length < 2000)
    (q:∀ K' ys,FS H K' lf lo lp lh (Gk es ((i:Int),(j:Int)) (.int v)) (Gk gs ((i:Int),(j:Int)) (Aa p)) ys -> ys.Perm (xs++[ent v ((i:Int),(j:Int))]) -> Bl klt ys -> (∀ m,m≠lf -> m≠lo -> m≠lh -> K'[m]?=K[m]?) -> QS [some (.loc o),some (.loc lf),some (.loc lo),some (.loc lp),some (.tup [.int (i:Int),.int (j:Int)]),some (ent L p),x6,some (.int v)] K') :
    wpSs T_09 (Ai T_09 (d+4)) (.cons (.setitem (.var 1) (.var 4) (.var 7)) (.cons (.setitem (.var 2) (.var 4) (.sub (.var 5) (.int 1))) (.cons (.expr (.umeth (.var 3) 6 (.cons (.tup (.cons (.var 7) (.cons (.var 4) .nil))) .nil))) .nil)))
      [some (.loc o),some (.loc lf),some (.loc lo),some (.loc lp),some (.tup [.int (i:Int),.int (j:Int)]),some (ent L p),x6,some (.int v)] K QS R NoX:=by
  have hlid:lid=16777216:=rfl
  have x1:=x.setF (Gk es ((i:Int),(j:Int)) (.int v))
  have x2:=x1.setO (Gk gs ((i:Int),(j:Int)) (Aa p))
  simp only [↓Ag,↓Bk,↓Hn,↓B1,↓A0,↓A9,↓A8,↓B0,↓Ah,↓Ax,↓Dw,↓Dj,↓Aj,↓Aq]
  rw [Gd x.f (by exact Ae1 n2 hlid)]
  show Wp (A3 (.loc lo) (.tup [.int (i:Int),.int (j:Int)]) (Aa p)) _ _ _
  rw [Gd x1.o (by exact Ae1 n3 hlid),Jz x2.p (show T_09.meth 8 6=some 30 from rfl)]
  refine (Uk (d+3) Ll x2.p x2.h dc (Us v ((i:Int),(j:Int))) pile n1).then ?_
  rintro w K' ⟨_,ys,hr0,hp,hpile⟩;refine Eq.symm hr0▸?_
  refine q _ ys (x2.setH ys) hp hpile fun m h1 h2 h3=>?_
  rw [List.getElem?_set_ne (Ne.symm h3),List.getElem?_set_ne (Ne.symm h2),List.getElem?_set_ne (Ne.symm h1)]
theorem Ab5 {i j:Nat} {a:Int} (x:FS H K lf lo lp lh es gs xs) (hes:Has es F):∃ t:Bool,(t=true -> ∀ f,F ((i:Int),(j:Int))=some f -> a < f) /\ (t=false -> ∃ f,F ((i:Int),(j:Int))=some f /\ f <= a) /\
    wpE T_09 (Ai T_09 (d+4)) (.or (.cmp .notin (.var 4) (.var 1)) (.cmp .lt (.var 7) (.sub (.var 1) (.var 4)))) [x4,some (.loc lf),x5,x6,some (.tup [.int (i:Int),.int (j:Int)]),x7,x8,some (.int a)] K (fun v K'=>v=.bool t /\ K'=K) NoE:=by
  have hk:=hes ((i:Int),(j:Int))
  cases hf:F ((i:Int),(j:Int)) with
  | none =>
    rw [hf] at hk
    refine ⟨true,(fun _ f h=>nomatch h),(fun h=>nomatch h),?_⟩
    simp only [↓Eo,↓A2,↓A0,↓A9,↓Dj,↓Aj,↓Aq]
    rw [Bj (D3 x.f),hk]
    exact ⟨trivial,trivial⟩
  | some f =>
    rw [hf] at hk
    refine ⟨decide (a < f),fun h f' h'=>?_,fun h=>⟨f,rfl,?_⟩,?_⟩
    · cases h';exact of_decide_eq_true h
    · have:=of_decide_eq_false h;exact Ae0 this
    · simp only [↓Eo,↓A2,↓A0,↓A9,↓Dj,↓Aj,↓Aq]
      rw [Bj (D3 x.f),hk]
      show Wp (De (.loc lf) (.tup [.int (i:Int),.int (j:Int)])) K _ _
      rw [G7 x.f hk]
      exact ⟨rfl,rfl⟩
theorem Ago {O O':Key -> Key -> Prop} {p q:Key} (og:OkG g r c) (LA:LandAt H o r c lg b s ls g es0) (x:FS H K lf lo lp lh es gs xs) (hes:Has es F) (fl:Fl (hgt g r c) D (fun k=>inR r c k=true) O F xs U L) (hO:∀ p' q',O p' q' -> O' p' q' \/ (p'=p /\ q'=q)) (hp:¬ p∈U) (hF:F p=some L) (hq:inR r c q=true) (hA:Adj p q) (pile:Bl klt xs) (n1:xs.length < 1000) (n2:es.length < 2000) (n3:gs.length < 2000)
    (k:∀ K' es' gs' xs' F' y4 y6 y7,FS H K' lf lo lp lh es' gs' xs' -> Has es' F' -> Fl (hgt g r c) D (fun k=>inR r c k=true) O' F' xs' U L -> F' p=some L -> Bl klt xs' -> xs'.length <= xs.length+1 -> es'.length <= es.length+1 -> gs'.length <= gs.length+1 -> (∀ m,m≠lf -> m≠lo -> m≠lh -> K'[m]?=K[m]?) -> QS [some (.loc o),some (.loc lf),some (.loc lo),some (.loc lp),y4,some (ent L p),y6,y7] K') :
    wpSs T_09 (Ai T_09 (d+4)) zT5
      [some (.loc o),some (.loc lf),some (.loc lo),some (.loc lp),some (Aa q),some (ent L p),x6,x7] K QS R NoX:=by
  refine ex2 (Ea hq) fun i j zz=>An zz fun zr2 hi hj=>?_;subst zr2
  have LK:=LA.ext x.ext
  refine ex2 (Fj og hi hj) fun w y zz=>An zz fun hw hy hcase=>?_
  have st:wpE T_09 (Ai T_09 (d+4)) (.umeth (.var 0) 2 (.cons (.var 4) .nil)) [some (.loc o),some (.loc lf),some (.loc lo),some (.loc lp),some (Aa ((i:Int),(j:Int))),some (ent L p),x6,x7] K (fun v K'=>v=y /\ K'=K) NoE:=by
    refine ex1 LK.inst fun fs zz=>Ac zz fun f0 _=>?_
    simp only [↓B0,↓A0,↓Ah,↓Ax,↓Dj,↓Aj]
    rw [Ej f0 (show T_09.meth 7 2=some 25 from rfl)]
    exact P0 hi hj LK hw hy
  refine Au _ st ?_
  clear st LK LA
  rintro v K' ⟨rfl,rfl⟩
  rcases hcase with ⟨rfl,hn⟩ | ⟨a,rfl,_,ha⟩
  · exact k _ _ _ _ _ _ _ _ x hes (fl.skip hO hF (fun a ha=>by rw [hn] at ha;cases ha)) hF pile (Nat.le_succ _) (Nat.le_succ _) (Nat.le_succ _) fun _ _ _ _=>rfl
  · refine Abm (fun K2=>K2=K') ⟨rfl,rfl⟩ ?_
    rintro K2 rfl
    refine Au (fun v K'=>v=.int (mx a L) /\ K'=K2) ⟨rfl,rfl⟩ ?_
    rintro v K' ⟨rfl,rfl⟩
    refine ex1 (Ab5 (d:=d) (i:=i) (j:=j) (a:=mx a L) (x4:=some (.loc o)) (x5:=some (.loc lo)) (x6:=some (.loc lp)) (x7:=some (ent L p)) (x8:=some (.int a)) x hes) fun t zz=>An zz fun ht hf hc=>?_
    refine A4 hc ?_
    clear hc
    rintro v K2 ⟨rfl,rfl⟩
    refine B8 (fun h=>?_) (fun h=>?_)
    · have new:=ht h
      refine Xq x fl.dc pile n1 n2 n3 fun K3 ys x' hperm hpile keep=>k _ _ _ _ _ _ _ _ x' (hes.put _ _) ((fl.put hO hp hF hq hA ha new).perm hperm) ?_ hpile ?_ (Fe _ _ _) (Fe _ _ _) keep
      · by_cases e:p=((i:Int),(j:Int))
        · have t1:=new L (by rw [<- e];exact hF)
          have t2:=Agm a L
          exact (Afj t1 t2).elim
        · rw [Dy _ _ e];exact hF
      · rw [hperm.length_eq,List.length_append];exact zI _
    · refine ex1 (hf h) fun f zz=>Ac zz fun h1 h2=>?_
      exact k _ _ _ _ _ _ _ _ x hes (fl.skip hO hF (fun a' ha'=>by rw [ha] at ha';cases ha';exact ⟨f,h1,h2⟩)) hF pile (Nat.le_succ _) (Nat.le_succ _) (Nat.le_succ _) fun _ _ _ _=>rfl
end
theorem Fl.imp {h:Key -> Option Int} {D C:Key -> Prop} {O O':Key -> Key -> Prop} {F:Key -> Option Int} {xs:List Val} {U:List Key} {m:Int} (x:Fl h D C O F xs U m) (hc:∀ p q,O p q -> O' p q):Fl h D C O' F xs U m :=
  ⟨x.ents,x.nd,x.here,x.done,x.seen,x.drain,x.snd,fun p fp hf hp q hq ho a ha=>x.near p fp hf hp q hq (fun c=>ho (hc p q c)) a ha⟩
inductive EInv (H:Hp) (o lf lo lp lh:Nat) (A:List Key -> (Key -> Option Int) -> List Val -> List (Key × Val) -> Prop) (p:Key) (L:Int) (bs:List Key) (a1 a2 a3 m':Nat):Nat -> Env' -> Hp -> Prop
  | mk {j:Nat} {K:Hp} (es gs:List (Key × Val)) (xs:List Val) (F:Key -> Option Int) (y4 y6 y7:Option Val) (x:FS H K lf lo lp lh es gs xs) (hes:Has es F) (fl:A (bs.take j) F xs gs) (hF:F p=some L) (pile:Bl klt xs) (b1:xs.length <= a1+j) (b2:es.length <= a2+j) (b3:gs.length <= a3+j) (gm:K[m']?=some (.list (bs.map Aa))) (hj:j <= 4) :
    EInv H o lf lo lp lh A p L bs a1 a2 a3 m' j [some (.loc o),some (.loc lf),some (.loc lo),some (.loc lp),y4,some (ent L p),y6,y7] K
inductive WInv (H:Hp) (o lf lo lp lh:Nat) (A:(Key -> Option Int) -> List Val -> List Key -> Int -> List (Key × Val) -> Prop):Nat -> Env' -> Hp -> Prop
  | mk {n:Nat} {K:Hp} (es gs:List (Key × Val)) (xs:List Val) (F:Key -> Option Int) (U:List Key) (m:Int) (y4 y5 y6 y7:Option Val) (x:FS H K lf lo lp lh es gs xs) (hes:Has es F) (fl:A F xs U m gs) (pile:Bl klt xs) (hn:xs.length+5 * U.length=n) (b1:n < 990) (b2:es.length+4 * U.length < 1800) (b3:gs.length+4 * U.length < 1800) :
    WInv H o lf lo lp lh A n [some (.loc o),some (.loc lf),some (.loc lo),some (.loc lp),y4,y5,y6,y7] K
section
variable {H K:Hp} {d:Nat} {QS:Env' -> Hp -> Prop} {R:Val -> Hp -> Prop} {o r c lg b s ls lf lo lp lh:Nat} {g:List (List Val)} {es0 es gs:List (Key × Val)} {xs:List Val} {D:Key -> Prop} {F:Key -> Option Int} {U:List Key} {L m:Int} {x4 x5 x6 x7:Option Val}
set_option maxHeartbeats 1000000 in
theorem Ab6 {p:Key} (og:OkG g r c) (LA:LandAt H o r c lg b s ls g es0) (x:FS H K lf lo lp lh es gs xs) (hes:Has es F) (fl:Fl (hgt g r c) D (fun k=>inR r c k=true) (fun p' _=>p'=p) F xs U L) (hp:¬ p∈U) (hF:F p=some L) (pile:Bl klt xs) (n1:xs.length < 990) (n2:es.length < 1900) (n3:gs.length < 1900)
    (q:∀ K' es' gs' xs' F' y4 y6 y7,FS H K' lf lo lp lh es' gs' xs' -> Has es' F' -> Fl (hgt g r c) D (fun k=>inR r c k=true) (fun _ _=>False) F' xs' U L -> Bl klt xs' -> xs'.length <= xs.length+4 -> es'.length <= es.length+4 -> gs'.length <= gs.length+4 -> QS [some (.loc o),some (.loc lf),some (.loc lo),some (.loc lp),y4,some (ent L p),y6,y7] K') :
    wpS T_09 (Ai T_09 (d+4)) (.each 4 (.call 2 (.cons (.attr (.var 0) 0) (.cons (.attr (.var 0) 1) (.cons (.sub (.var 5) (.int 1)) .nil)))) zT5)
      [some (.loc o),some (.loc lf),some (.loc lo),some (.loc lp),x4,some (ent L p),x6,x7] K QS R NoX:=by
  refine Af fun G kG=>?_
  obtain ⟨p1,p2⟩:=p
  have LK:=LA.ext x.ext
  refine ex1 LK.inst fun fs zz=>Cm zz fun f0 f1 f2 _=>?_
  refine kG ?_
  apply C5
  simp only [↓A1,↓Ah,↓Dp,↓A0,↓Dj,↓Aj,↓A9,↓A8,↓Ax,↓Aq]
  rw [C6 f0 f1,C6 f0 f2]
  show Wp (Ai T_09 (d+4) 2 [.int (r:Int),.int (c:Int),.tup [.int p1,.int p2]]) K _ _
  refine (Ku (d:=d+1)).then ?_
  intro v K1 zz
  refine ex1 zz fun m' zz=>Cm zz fun zr1 hm e1 gm=>?_;subst zr1
  rw [Bj (Bx gm)]
  have x1:=x.more e1
  have blen:=Uu r c p1 p2
  have lh':=x.lt
  have lf':=Bw x.f
  have lo':=Bw x.o
  obtain ⟨I,hI⟩:=Dr (EInv H o lf lo lp lh (fun ks F' xs' gs'=>Fl (hgt g r c) D (fun k=>inR r c k=true) (fun p' q'=>p'=(p1,p2) /\ ¬ q'∈ks) F' xs' U L) (p1,p2) L (bes r c p1 p2) xs.length es.length gs.length m')
  show WpS (E4 (chk (some m') ((bes r c p1 p2).map Aa)) (Nm 4) _ ((bes r c p1 p2).map Aa) _ _) _ _ _
  refine B9 I ((hI _ _ _).mpr (.mk es gs xs F x4 x6 x7 x1 hes (fl.imp (fun p q h=>⟨h,fun c=>nomatch c⟩)) hF pile (zI _) (zI _) (zI _) gm (Nat.zero_le _))) ?_ ?_ ?_
  · clear x1 x hes fl
    intro Γ K' h
    refine Af fun G kG=>?_
    obtain ⟨es',gs',xs',F',y4,y6,y7,x',hes',fl',_,pile',b1,b2,b3,_,hj⟩:=(hI _ _ _).mp h
    refine kG ?_
    rw [List.length_map] at fl' b1 b2 b3
    refine q K' es' gs' xs' F' y4 y6 y7 x' hes' (fl'.close ?_) pile' (by exact Afl b1 blen) (by exact Afl b2 blen) (by exact Afl b3 blen)
    rintro p q a ⟨rfl,hn⟩ hA ha
    rw [List.take_length] at hn
    exact hn (Ii.mpr ⟨hA,Gu ha⟩)
  · intro j Γ K' _ h
    obtain ⟨es',gs',xs',F',y4,y6,y7,_,_,_,_,_,_,_,_,gm',_⟩:=(hI _ _ _).mp h
    exact B4 gm'
  · clear x1 x hes fl hF pile q
    intro j z Γ K' hz h
    obtain ⟨es',gs',xs',F',y4,y6,y7,x',hes',fl',hF',pile',b1,b2,b3,gm',hj⟩:=(hI _ _ _).mp h
    refine ex1 (G8 hz) fun q zz=>Ac zz fun hq hr2=>?_;refine Eq.symm hr2▸?_
    obtain ⟨hA,hin⟩:=Ii.mp (zF hq)
    have lj:=(List.getElem?_eq_some_iff.mp hq).1
    refine ⟨_,rfl,Ago og LA x' hes' fl' (O':=fun p' q'=>p'=(p1,p2) /\ ¬ q'∈(bes r c p1 p2).take (j+1)) (p:=(p1,p2)) (q:=q) ?_ hp hF' hin hA pile' (by exact Amn n1 lj b1 blen hj) (by exact Aht n2 lj b2 blen hj) (by exact Aht n3 lj b3 blen hj) ?_⟩
    · rintro p' q' ⟨rfl,hn⟩
      by_cases e:q'=q
      · exact .inr ⟨rfl,e⟩
      · exact .inl ⟨rfl,fun h=>((Bg hq).mp h).elim hn e⟩
    · intro K2 es2 gs2 xs2 F2 z4 z6 z7 x2 hes2 fl2 hF2 pile2 c1 c2 c3 keep
      exact (hI _ _ _).mpr (.mk es2 gs2 xs2 F2 z4 z6 z7 x2 hes2 fl2 hF2 pile2 (zC c1 (Nat.succ_le_succ b1)) (zC c2 (Nat.succ_le_succ b2)) (zC c3 (Nat.succ_le_succ b3)) ((keep m' (Nat.ne_of_gt (zD lf' hm)) (Nat.ne_of_gt (zD lo' hm)) (Nat.ne_of_gt (zD lh' hm))).trans gm') (zC lj blen))
theorem Uz {m:Val} {t xs:List Val} (e:xs=m :: t) (p:Bl klt xs):∀ y∈t,klt y m=false:=fun y hy=>by
  subst e
  obtain ⟨n,hn⟩:=List.mem_iff_getElem?.mp hy
  exact p.least Ga (m:=m) rfl (n+1) y hn
set_option maxHeartbeats 1000000 in
theorem Ab7 (og:OkG g r c) (LA:LandAt H o r c lg b s ls g es0) (x:FS H K lf lo lp lh es gs xs) (hes:Has es F) (fl:Fl (hgt g r c) D (fun k=>inR r c k=true) (fun _ _=>False) F xs U m) (pile:Bl klt xs) (n1:xs.length+5 * U.length < 990) (n2:es.length+4 * U.length < 1800) (n3:gs.length+4 * U.length < 1800)
    (q:∀ K' es' gs' F' y4 y5 y6 y7,FS H K' lf lo lp lh es' gs' [] -> Has es' F' -> Lv (hgt g r c) D F' -> QS [some (.loc o),some (.loc lf),some (.loc lo),some (.loc lp),y4,y5,y6,y7] K') :
    wpS T_09 (Ai T_09 (d+4)) (.loop (.cmp .gt (.umeth (.var 3) 10 .nil) (.int 0)) zT1)
      [some (.loc o),some (.loc lf),some (.loc lo),some (.loc lp),x4,x5,x6,x7] K QS R NoX:=by
  obtain ⟨I,hI⟩:=Dr (WInv H o lf lo lp lh (fun F' xs' U' m' gs'=>Fl (hgt g r c) D (fun k=>inR r c k=true) (fun _ _=>False) F' xs' U' m'))
  refine Hq I (n:=xs.length+5 * U.length) (Nat.lt_trans n1 (by decide)) ((hI _ _ _).mpr (.mk es gs xs F U m x4 x5 x6 x7 x hes fl pile rfl n1 n2 n3)) ?_
  clear x hes fl pile n1 n2 n3
  intro n Γ K' h
  obtain ⟨es',gs',xs',F',U',m',y4,y5,y6,y7,x',hes',fl',pile',hn,b1,b2,b3⟩:=(hI _ _ _).mp h
  rw [A2]
  simp only [↓B0,↓A0,↓Dj,↓Aj,↓Ax,↓A8]
  rw [Jz x'.p (show T_09.meth 8 10=some 34 from rfl)]
  refine (Xh (d+3) x'.p x'.h).then ?_
  rintro v K2 ⟨e,rfl⟩
  rw [e,Q5]
  clear e
  refine Fz ?_ ?_
  · intro hpos
    refine Au (fun v K2=>∃ t ys,xs'=v :: t /\ FS H K2 lf lo lp lh es' gs' ys /\ ys.Perm t /\ Bl klt ys) ?_ ?_
    · simp only [↓B0,↓A0,↓Dj,↓Aj,↓Ax,↓A8]
      rw [Jz x'.p (show T_09.meth 8 8=some 32 from rfl)]
      refine (Xg (d+2) Ll (Cg x'.p x'.h (by intro c;cases c)) x'.p x'.h fl'.dc pile' (by exact Amo hn b1) (fun c=>by rw [c] at hpos;exact absurd hpos (by decide))).then ?_
      intro v K2 zz
      refine ex2 zz fun t ys zz=>Fo zz fun e on hy hp hpile=>?_
      exact ⟨t,ys,e,x'.only on hy,hp,hpile⟩
    clear x'
    intro v K2 zz
    refine ex2 zz fun t ys zz=>Cm zz fun zr2 x2 hperm hpile=>?_;subst zr2
    refine ex2 (fl'.ents v (.head _)) fun L zn1 zz=>An zz fun zr2 _ zz=>ex1 zz fun f zz=>Ac zz fun hf _=>?_;obtain ⟨p1,p2⟩:=zn1;subst zr2
    have hk:=hes' (p1,p2)
    rw [hf] at hk
    have lt:(ent L (p1,p2) :: t).length=t.length+1:=rfl
    have ly:=hperm.length_eq
    have cond:wpE T_09 (Ai T_09 (d+4)) (.cmp .eq (.sub (.var 1) (.sub (.var 5) (.int 1))) (.sub (.var 5) (.int 0))) [some (.loc o),some (.loc lf),some (.loc lo),some (.loc lp),y4,some (.tup [.int L,.tup [.int p1,.int p2]]),y6,y7] K2 (fun v K3=>v=.bool (decide (f=L)) /\ K3=K2) NoE:=by
      simp only [↓A2,↓A9,↓A0,↓Dj,↓Aj,↓Aq,↓A8,↓Fc,↓Fb]
      rw [G7 x2.f hk]
      exact ⟨rfl,rfl⟩
    refine A4 cond ?_
    clear cond hk
    rintro v K3 ⟨rfl,rfl⟩
    refine Fz ?_ ?_
    · rintro rfl
      obtain ⟨hU,fp⟩:=fl'.pop (Uz rfl pile') hf
      have fu:=Uy hU
      refine Ab6 (p:=(p1,p2)) og LA x2 hes' (fp.perm hperm) (fun c=>?_) hf hpile (by exact Amp b2 hn b1 lt ly) (by exact Amq b2) (by exact Amr b2 b3) ?_
      · have:=(List.mem_filter.mp c).2
        simp at this
      · intro K3 es3 gs3 xs3 F3 z4 z6 z7 x3 hes3 fl3 pile3 c1 c2 c3
        exact ⟨_,by exact Ams hn fu lt ly c1,(hI _ _ _).mpr (.mk es3 gs3 xs3 F3 _ _ z4 _ z6 z7 x3 hes3 fl3 pile3 rfl (by exact Amt hn fu b1 lt ly c1) (by exact Ahu b2 fu c2) (by exact Ahu b3 fu c3))⟩
    · intro hne
      exact ⟨_,by exact Amu hn lt ly,(hI _ _ _).mpr (.mk es' gs' ys F' U' m' y4 _ y6 y7 x2 hes' ((fl'.stale (fun c=>hne (by rw [hf] at c;cases c;rfl))).perm hperm) hpile rfl (by exact Amv hn b1 lt ly) (by assumption) (by assumption))⟩
  · intro hz
    have:xs'=[]:=List.length_eq_zero_iff.mp (by exact Amw hn hz)
    subst this
    exact q K' es' gs' F' y4 y5 y6 y7 x' hes' fl'.fin
end
theorem Fl.drainsAre {h:Key -> Option Int} {D D' C:Key -> Prop} {O:Key -> Key -> Prop} {F:Key -> Option Int} {xs:List Val} {U:List Key} {m:Int} (x:Fl h D C O F xs U m) (hc:∀ k,D k↔D' k):Fl h D' C O F xs U m:=by
  have:D=D':=funext fun k=>propext (hc k)
  rw [<- this];exact x
inductive NInv (H:Hp) (o lf lo lp lh:Nat) (A:List Val -> (Key -> Option Int) -> List Val -> List (Key × Val) -> Prop) (ds:List Val) (m':Nat):Nat -> Env' -> Hp -> Prop
  | mk {n:Nat} {K:Hp} (es gs:List (Key × Val)) (xs:List Val) (F:Key -> Option Int) (y4:Option Val) (x:FS H K lf lo lp lh es gs xs) (hes:Has es F) (fl:A (ds.take n) F xs gs) (pile:Bl klt xs) (only:∀ k f,F k=some f -> Aa k∈ds.take n) (b1:xs.length <= n) (b2:es.length <= n) (b3:gs.length <= n) (gm:K[m']?=some (.list ds)) :
    NInv H o lf lo lp lh A ds m' n [some (.loc o),some (.loc lf),some (.loc lo),some (.loc lp),y4,none,none,none] K
section
variable {H K:Hp} {d:Nat} {QS:Env' -> Hp -> Prop} {R:Val -> Hp -> Prop} {o r c lg b s ls lf lo lp lh:Nat} {g:List (List Val)} {es0 es gs:List (Key × Val)} {xs:List Val} {D:Key -> Prop} {F:Key -> Option Int} {U:List Key} {L m:Int} {x4 x5 x6 x7:Option Val}
theorem Aep {i j:Nat} {a:Int} {w:List Val} (LA:LandAt K o r c lg b s ls g es0) (x:FS H K lf lo lp lh es gs xs) (hi:i < r) (hj:j < c) (hw:g[i]?=some w) (hy:w[j]?=some (.int a)) (dc:∀ y∈xs,DC y) (pile:Bl klt xs) (n1:xs.length < 1000) (n2:es.length < 2000) (n3:gs.length < 2000)
    (q:∀ K' ys,FS H K' lf lo lp lh (Gk es ((i:Int),(j:Int)) (.int a)) (Gk gs ((i:Int),(j:Int)) .none) ys -> ys.Perm (xs++[ent a ((i:Int),(j:Int))]) -> Bl klt ys -> (∀ m,m≠lf -> m≠lo -> m≠lh -> K'[m]?=K[m]?) -> QS [some (.loc o),some (.loc lf),some (.loc lo),some (.loc lp),some (Aa ((i:Int),(j:Int))),none,none,none] K') :
    wpSs T_09 (Ai T_09 (d+4)) zT10 [some (.loc o),some (.loc lf),some (.loc lo),some (.loc lp),some (Aa ((i:Int),(j:Int))),none,none,none] K QS R NoX:=by
  have hlid:lid=16777216:=rfl
  refine ex1 LA.inst fun fs zz=>Ac zz fun f0 _=>?_
  have x2:=x.setF (Gk es ((i:Int),(j:Int)) (.int a))
  have x3:=x2.setO (Gk gs ((i:Int),(j:Int)) .none)
  have gt:Ec (Gk es ((i:Int),(j:Int)) (.int a)) ((i:Int),(j:Int))=some (.int a):=by rw [Ls,if_pos rfl]
  simp only [↓Ag,↓Bk,↓Hn,↓B1,↓A0,↓A9,↓A8,↓Dc,↓B0,↓Ah,↓Ax,↓Dw,↓Dj,↓Aj]
  rw [Ej f0 (show T_09.meth 7 2=some 25 from rfl)]
  refine (P0 hi hj LA hw hy).then ?_
  rintro v K2 ⟨rfl,rfl⟩
  show Wp (A3 (.loc lf) (.tup [.int (i:Int),.int (j:Int)]) (.int a)) _ _ _
  rw [Gd x.f (by exact Ae1 n2 hlid)]
  show Wp (A3 (.loc lo) (.tup [.int (i:Int),.int (j:Int)]) .none) _ _ _
  rw [Gd x2.o (by exact Ae1 n3 hlid),Jz x3.p (show T_09.meth 8 6=some 30 from rfl)]
  show Wp (De (.loc lf) (.tup [.int (i:Int),.int (j:Int)])) _ _ _
  rw [G7 x3.f gt]
  refine (Uk (d+3) Ll x3.p x3.h dc (Us a ((i:Int),(j:Int))) pile n1).then ?_
  intro w K' zz
  refine Ac zz fun _ zz=>ex1 zz fun ys zz=>An zz fun zr2 hp hpile=>?_;subst zr2
  refine q _ ys (x3.setH ys) hp hpile fun m h1 h2 h3=>?_
  rw [List.getElem?_set_ne (Ne.symm h3),List.getElem?_set_ne (Ne.symm h2),List.getElem?_set_ne (Ne.symm h1)]
theorem Xr (og:OkG g r c) (hr:r <= 30) (hc:c <= 30) (LA:LandAt H o r c lg b s ls g es0) (hd:∀ k,Aa k∈(cells r c).filter (inD es0) -> ∃ a,hgt g r c k=some a) (x:FS H K lf lo lp lh [] [] [])
    (q:∀ K' es' gs' xs' F' y4,FS H K' lf lo lp lh es' gs' xs' -> Has es' F' -> Fl (hgt g r c) (fun k=>Aa k∈(cells r c).filter (inD es0)) (fun k=>inR r c k=true) (fun _ _=>False) F' xs' (Gj r c) 0 -> Bl klt xs' -> xs'.length <= r * c -> es'.length <= r * c -> gs'.length <= r * c -> QS [some (.loc o),some (.loc lf),some (.loc lo),some (.loc lp),y4,none,none,none] K') :
    wpS T_09 (Ai T_09 (d+4)) (.each 4 (.umeth (.var 0) 4 .nil) zT10)
      [some (.loc o),some (.loc lf),some (.loc lo),some (.loc lp),none,none,none,none] K QS R NoX:=by
  have hrc:=Nat.mul_le_mul hr hc
  have LK:=LA.ext x.ext
  refine ex1 LK.inst fun fs zz=>Ac zz fun f0 _=>?_
  apply C5
  simp only [↓B0,↓A0,↓Dj,↓Aj,↓Ax]
  rw [Ej f0 (show T_09.meth 7 4=some 27 from rfl)]
  refine (Ks (d:=d+2) hr hc LK).then ?_
  clear LK f0
  intro v K1 zz
  refine ex1 zz fun m' zz=>Cm zz fun zr1 hm' e1 gm=>?_;subst zr1
  rw [Bj (Bx gm)]
  have nd:((cells r c).filter (inD es0)).Nodup:=(J2 r c).sublist List.filter_sublist
  have hsub:∀ x∈(cells r c).filter (inD es0),∃ i j:Nat,x=Aa ((i:Int),(j:Int)) /\ i < r /\ j < c:=fun x hx=>Lr (List.mem_filter.mp hx).1
  have dl:((cells r c).filter (inD es0)).length <= r * c:=by rw [<- Ht r c];exact List.length_filter_le _ _
  generalize (cells r c).filter (inD es0)=ds at *
  have x1:=x.more e1
  have lh':=x.lt
  have lf':=Bw x.f
  have lo':=Bw x.o
  show WpS (E4 (chk (some m') ds) (Nm 4) _ ds _ _) _ _ _
  obtain ⟨I,hI⟩:=Dr (NInv H o lf lo lp lh (fun vs F' xs' gs'=>Fl (hgt g r c) (fun k=>Aa k∈vs) (fun k=>inR r c k=true) (fun _ _=>False) F' xs' (Gj r c) 0) ds m')
  refine B9 I ((hI _ _ _).mpr (.mk [] [] [] (fun _=>none) none x1 (fun k=>rfl) ((Fl.start (fun k hk=>Cs.mpr hk)).drainsAre (fun k=>⟨fun h=>h.elim,fun h=>nomatch h⟩)) (fun i hi x y hx=>nomatch hx) (fun k f h=>nomatch h) (zI _) (zI _) (zI _) gm)) ?_ ?_ ?_
  · clear x x1 LA hd hsub nd gm
    intro Γ K' h
    refine Af fun G kG=>?_
    obtain ⟨es',gs',xs',F',y4,x',hes',fl',pile',_,b1,b2,b3,_⟩:=(hI _ _ _).mp h
    refine kG ?_
    rw [List.take_length] at fl'
    exact q K' es' gs' xs' F' y4 x' hes' fl' pile' (zC b1 dl) (zC b2 dl) (zC b3 dl)
  · intro j Γ K' _ h
    obtain ⟨es',gs',xs',F',y4,_,_,_,_,_,_,_,_,gm'⟩:=(hI _ _ _).mp h
    exact B4 gm'
  · clear x x1 q gm e1
    intro n z Γ K' hz h
    refine Af fun G kG=>?_
    obtain ⟨es',gs',xs',F',y4,x',hes',fl',pile',only,b1,b2,b3,gm'⟩:=(hI _ _ _).mp h
    have ln:=(List.getElem?_eq_some_iff.mp hz).1
    refine ex2 (hsub z (zF hz)) fun i j zz=>An zz fun zr2 hi hj=>?_;subst zr2
    refine ex2 (Fj og hi hj) fun w y zz=>An zz fun hw hy hcase=>?_
    obtain ⟨a,ha⟩:=hd _ (zF hz)
    refine kG ?_
    rcases hcase with ⟨_,hn⟩ | ⟨a',rfl,ha0,ha'⟩
    · rw [hn] at ha;cases ha
    have nF:F' ((i:Int),(j:Int))=none:=by
      cases hf:F' ((i:Int),(j:Int)) with
      | none=>rfl
      | some f=>exact absurd (only _ f hf) (Xp nd hz)
    have all:∀ k,¬ k∈Gj r c -> F' k=none:=fun k hk=>by
      cases hf:F' k with
      | none=>rfl
      | some f =>
        refine ex2 (hsub _ (List.mem_of_mem_take (only k f hf))) fun i' j' zz=>An zz fun e' hi' hj'=>?_
        exact absurd (Cs.mpr (by rw [E0 e'];exact J1 hi' hj')) hk
    refine ⟨_,rfl,Aep (LA.ext x'.ext) x' hi hj hw hy fl'.dc pile' (by exact Amx ln hrc dl b1) (by exact Ahv ln hrc dl b2) (by exact Ahv ln hrc dl b3) ?_⟩
    intro K2 ys x3 hp hpile keep
    have fl2:=fl'.opened all nF ha' ha0 (Cs.mpr (J1 hi hj))
    refine (hI _ _ _).mpr (.mk _ _ ys _ _ x3 (hes'.put _ _) ((fl2.perm hp).drainsAre (fun k=>?_)) hpile (fun k f hf=>?_) ?_ (zC (Fe _ _ _) (Nat.succ_le_succ b2)) (zC (Fe _ _ _) (Nat.succ_le_succ b3)) ((keep m' (Nat.ne_of_gt (zD lf' hm')) (Nat.ne_of_gt (zD lo' hm')) (Nat.ne_of_gt (zD lh' hm'))).trans gm'))
    · rw [Bg hz]
      exact or_congr Iff.rfl ⟨fun h=>congrArg Aa h,fun h=>E0 h⟩
    · rw [Bg hz]
      by_cases e:k=((i:Int),(j:Int))
      · exact .inr (congrArg Aa e)
      · rw [Dy _ _ e] at hf
        exact .inl (only k f hf)
    · rw [hp.length_eq,List.length_append];exact Nat.succ_le_succ b1
end
section
variable {H:Hp} {d:Nat} {o r c lg b s ls:Nat} {g:List (List Val)} {es0:List (Key × Val)}
theorem U0 (og:OkG g r c) (hr:r <= 30) (hc:c <= 30) (hrc:r * c <= 132) (LA:LandAt H o r c lg b s ls g es0) (hd:∀ k,Aa k∈(cells r c).filter (inD es0) -> ∃ a,hgt g r c k=some a) :
    Wp (Ai T_09 (d+5) 6 [.loc o]) H (fun v H'=>∃ lf lo es gs F,v=.tup [.loc lf,.loc lo] /\ Ext H H' /\ H'[lf]?=some (.dict es) /\ H'[lo]?=some (.dict gs) /\ Has es F /\ Lv (hgt g r c) (fun k=>Aa k∈(cells r c).filter (inD es0)) F) NoE:=by
  rw [As (g:=Aeg) rfl rfl]
  refine Au (fun v K=>v=.loc H.length /\ K=H++[.dict []]) (by simp only [↓H8,and_self]) ?_
  rintro v K ⟨rfl,e⟩
  rw [e];clear e K
  refine Au (fun v K=>v=.loc (H.length+1) /\ K=H++[.dict []]++[.dict []]) (by simp only [↓H8,List.length_append,List.length_singleton,and_self]) ?_
  rintro v K ⟨rfl,e⟩
  rw [e];clear e K
  refine Au (fun v K=>v=.loc (H.length+2) /\ FS H K H.length (H.length+1) (H.length+2) (H.length+3) [] [] []) ?_ ?_
  · simp only [↓Pl,↓Ax]
    refine Abx (d+3) _ ?_
    have ll:(H++[HObj.dict []]++[HObj.dict []]).length=H.length+2:=by simp
    rw [ll]
    have e0:Ext H (H++[HObj.dict []]):=⟨_,rfl⟩
    have e1:Ext (H++[HObj.dict []]) (H++[HObj.dict []]++[HObj.dict []]):=⟨_,rfl⟩
    have e2:Ext (H++[HObj.dict []]++[HObj.dict []]) (H++[HObj.dict []]++[HObj.dict []]++[HObj.inst 8 [(4,.loc (H.length+2+1))],HObj.list []]):=⟨_,rfl⟩
    refine ⟨rfl,(e0.trans e1).trans e2,zI _,by exact Ahw,by exact Amy,by exact Amz,e2.get (e1.get (Al H _)),e2.get ?_,?_,?_⟩
    · have:=Al (H++[HObj.dict []]) (.dict [])
      rw [List.length_append] at this
      exact this
    · rw [List.getElem?_append_right (by exact Am0 ll),ll,Nat.sub_self];rfl
    · rw [List.getElem?_append_right (by exact Am1 ll),ll,show H.length+3 - (H.length+2)=1 by exact Am2];rfl
  rintro v K ⟨hr2,x⟩;refine Eq.symm hr2▸?_
  refine D9 (QS:=fun Γ K'=>_) _ (Xr og hr hc LA hd x (fun K' es' gs' xs' F' y4 x' hes' fl' pile' b1 b2 b3=>?_)) (fun Γ K h=>h)
  have kl:=Ff r c
  refine D9 (QS:=fun Γ K'=>_) _ (Ab7 og LA x' hes' fl' pile' (by exact Am3 kl hrc b1) (by exact Ahx kl hrc b2) (by exact Ahx kl hrc b3) (fun K2 es2 gs2 F2 z4 z5 z6 z7 x2 hes2 lv=>?_)) (fun Γ K h=>h)
  simp only [↓Ag,↓Bv,↓Bd,↓Dw,↓Ah,↓A0,↓Aq,↓Aj,↓Ax]
  exact ⟨_,_,es2,gs2,F2,rfl,x2.ext,x2.f,x2.o,hes2,lv⟩
noncomputable def ov:Option Int -> Val
  | some i=>.int i
  | none=>.none
end
noncomputable def Eb (i c:Nat):List Key:=(List.range c).map fun (j:Nat)=>((i:Int),(j:Int))
theorem M6 (r c:Nat):Gj (r+1) c=Gj r c++Eb r c:=by
  unfold Gj Eb;rw [List.range_succ];simp
theorem M7 (i c:Nat):Eb i (c+1)=Eb i c++[((i:Int),(c:Int))]:=by
  unfold Eb;rw [List.range_succ,List.map_append];rfl
theorem Op (i c:Nat):(Eb i c).length=c:=by unfold Eb;rw [List.length_map,List.length_range]
noncomputable def Ik (g:List (List Val)) (r c:Nat) (n e:Int) (k:Key):Bool:=(hgt g r c k).isSome && decide (Int.fmod (n+(k.1 * c+k.2) * (1+Int.fmod (Int.fdiv n 12) 5)) e=0)
section
variable {T:Tab} {Φ:Funs} {Γ:Env'} {H K:Hp} {Q:Val -> Hp -> Prop} {E:Nat -> Hp -> Prop} {d:Nat} {QS:Env' -> Hp -> Prop} {R:Val -> Hp -> Prop} {ES:Nat -> Env' -> Hp -> Prop} {l b s r c:Nat} {g:List (List Val)}
theorem Xs (hS:OkS r c) (og:OkG g r c) (G:GAt H l b s g):∃ w,((List.range g.length).map fun i=>Val.loc (b+s * i))[0]?=some (.loc b) /\ H[b]?=some (.list w) /\ w.length=c:=by
  refine ex2 (Apc hS og G) fun w x zz=>Lz zz fun _ _ _ lw hi hr=>?_
  exact ⟨w,hi,hr,lw⟩
theorem Aif {w:List Val} (h1:((List.range g.length).map fun i=>Val.loc (b+s * i))[0]?=some (.loc b)) (top:H[l]?=some (.list ((List.range g.length).map fun i=>Val.loc (b+s * i)))) (h2:H[b]?=some (.list w)):Wp (De (.loc l) (.int 0)) H (fun v H'=>Wp (bfV .len [v]) H' Q E) E=Q (.int (w.length:Nat)) H:=by
  rw [show (0:Int)=((0:Nat):Int) from rfl,Dx top h1,Ar h2]
theorem Ab8 {i j:Nat} {w:List Val} {x:Val} (G:GAt H l b s g) (hw:g[i]?=some w) (hx:w[j]?=some x):Wp (De (.loc l) (.int (i:Int))) H (fun v H'=>Wp (De v (.int (j:Int))) H' Q E) E=Q x H:=by
  rw [Dx G.top (G.item (List.getElem?_eq_some_iff.mp hw).1),Dx (G.row i w hw) hx]
theorem Ab9 {i j:Nat} {n e:Int} {x0 x4:Val} (og:OkG g r c) (G:GAt H l b s g) (hi:i < r) (hj:j < c) (h0:e≠0) (sm:small ((i:Int) * (c:Int)+(j:Int))=true) :
    wpE T_09 (Ai T_09 (d+1)) (.and (.cmp .isNot (.sub (.sub (.var 1) (.var 5)) (.var 6)) .none) (.cmp .eq (.bin .mod (.bin .add (.var 2) (.bin .mul (.var 7) (.bin .add (.int 1) (.bin .mod (.bin .fdiv (.var 2) (.int 12)) (.int 5))))) (.var 3)) (.int 0)))
      [some x0,some (.loc l),some (.int n),some (.int e),some x4,some (.int (i:Int)),some (.int (j:Int)),some (.int ((i:Int) * (c:Int)+(j:Int)))] H (fun v K=>v=.bool (Ik g r c n e ((i:Int),(j:Int))) /\ K=H) NoE:=by
  refine ex2 (Fj og hi hj) fun w' y zz=>An zz fun hw' hy hcase=>?_
  show Wp (De (.loc l) (.int (i:Int))) H (fun v H'=>Wp (De v (.int (j:Int))) H' _ _) _
  rw [Ab8 G hw' hy]
  rcases hcase with ⟨rfl,hn⟩ | ⟨a,rfl,_,ha⟩
  · exact ⟨congrArg Val.bool (show false=((hgt g r c ((i:Int),(j:Int))).isSome && _) by rw [hn];rfl),rfl⟩
  · exact ⟨by decide,by decide,by rw [sm];rfl,h0,congrArg Val.bool (show decide _=((hgt g r c ((i:Int),(j:Int))).isSome && decide _) by rw [ha];rfl),rfl⟩
theorem Aca {ns:List Int} {ks:List Key} {i j:Nat} {n e:Int} {a7:Option Val} (hS:OkS r c) (og:OkG g r c) (G:GAt K l b s g) (hi:i < r) (hj:j < c) (h0:e≠0) (kl:ks.length < 1000)
    (q:∀ a7,QS [some (.script ns),some (.loc l),some (.int n),some (.int e),some (.loc K.length),some (.int (i:Int)),some (.int (j:Int)),a7] (K++[.list ((ks++[((i:Int),(j:Int))].filter (Ik g r c n e)).map Aa)])) :
    wpSs T_09 (Ai T_09 (d+1)) zT6 [some (.script ns),some (.loc l),some (.int n),some (.int e),some (.loc K.length),some (.int (i:Int)),some (.int (j:Int)),a7] (K++[.list (ks.map Aa)]) QS R NoX:=by
  have hlid:lid=16777216:=rfl
  unfold OkS at hS
  have GK:GAt (K++[.list (ks.map Aa)]) l b s g:=G.ext ⟨_,rfl⟩
  have mul:=Nat.mul_le_mul (show i <= 29 by exact Ahh hS hi) (show c <= 30 by exact Afk hS)
  have sm:small ((i:Int) * (c:Int)+(j:Int))=true:=by
    rw [show ((i:Int) * (c:Int)+(j:Int))=((i * c+j:Nat):Int) by rw [Int.natCast_add,Int.natCast_mul]]
    exact F8 (by exact Am4 hS hj mul)
  have smi:small (i:Int)=true:=F8 (by exact Ahi hS hi)
  refine Au (fun v K'=>v=.int ((i:Int) * (c:Int)+(j:Int)) /\ K'=K++[.list (ks.map Aa)]) ?_ ?_
  · refine Af fun G kG=>?_
    refine ex1 (Xs (by unfold OkS;exact hS) og GK) fun w zz=>An zz fun h1 h2 lw=>?_
    refine kG ?_
    simp only [↓Cf,↓Dq,↓Ah,↓Ax,↓A9,↓A0,↓A8,↓Dj,↓Aj]
    rw [Aif h1 GK.top h2,lw]
    exact ⟨by rw [smi];rfl,rfl,rfl⟩
  rintro v K' ⟨rfl,rfl⟩
  refine A4 (Ab9 og GK hi hj h0 sm) ?_
  rintro v K' ⟨rfl,rfl⟩
  refine B8 (fun h=>?_) (fun h=>?_)
  · rw [List.filter_cons_of_pos h] at q
    refine Iv (fun K'=>K'=K++[.list ((ks++[((i:Int),(j:Int))]).map Aa)]) ?_ (fun K' h=>by rw [h];exact q _)
    refine Cw rfl (Al K _) ?_
    refine ⟨_,Al K _,by rw [List.length_map];exact Acz kl hlid,?_⟩
    rw [Lq,List.map_append];rfl
  · rw [List.filter_cons_of_neg (by rw [h];exact Bool.false_ne_true),List.filter_nil,List.append_nil] at q
    exact q _
theorem Xu (n:Int):∃ e:Int,e≠0 /\ ∀ (x0 x1:Val) (H:Hp),wpE T_09 (Ai T_09 d) (.sub (.list (.cons (.int 2) (.cons (.int 3) (.cons (.int 5) (.cons (.int 9) (.cons (.int 14) .nil)))))) (.bin .mod (.bin .fdiv (.var 2) (.int 60)) (.int 5))) [some x0,some x1,some (.int n),none,none,none,none,none] H (fun v K=>v=.int e /\ Ext H K) NoE:=by
  refine Af fun G kG=>?_
  refine ex1 (Cr (Int.fdiv n 60) 5 (by decide)) fun k zz=>Ac zz fun hk lk=>?_
  obtain ⟨e,he⟩:∃ e,([2,3,5,9,14]:List Int)[k]?=some e:=⟨_,List.getElem?_eq_getElem lk⟩
  refine kG ?_
  have h0:∀ e∈([2,3,5,9,14]:List Int),e≠0:=by decide
  refine ⟨e,h0 e (zF he),fun x0 x1 H=>⟨by decide,by decide,?_⟩⟩
  rw [show Int.fmod (Int.fdiv n 60) 5=(k:Int) from hk]
  refine Og (Al H _) (by exact Am5 lk) ?_ ⟨rfl,⟨_,rfl⟩⟩
  show (([2,3,5,9,14]:List Int).map Val.int)[k]?=_
  rw [List.getElem?_map,he];rfl
theorem Oq (ns:List Int) (hS:OkS r c) (og:OkG g r c) (G:GAt H l b s g) :
    Wp (Ai T_09 (d+2) 14 [.script ns,.loc l]) H (fun v H'=>∃ m n e,v=.loc m /\ H.length <= m /\ Ext H H' /\ H'[m]?=some (.list (((Gj r c).filter (Ik g r c n e)).map Aa))) NoE:=by
  have hS':=hS
  unfold OkS at hS'
  rw [As (g:=Y0) rfl rfl]
  refine Au (fun v K=>∃ n,v=.int n /\ K=H) ?_ ?_
  · show Wp (Ai T_09 (d+1) 8 [.script ns,.int ((2:Nat):Int)]) H _ _
    rw [Gh]
    exact ⟨_,rfl,rfl⟩
  rintro v K ⟨n,rfl,rfl⟩
  refine ex1 (Xu (d:=d+1) n) fun e zz=>Ac zz fun h0 he=>?_
  refine Au _ (he _ _ _) ?_
  clear he
  rintro v H1 ⟨rfl,e1⟩
  have G1:=G.ext e1
  refine Au (fun v K=>v=.loc H1.length /\ K=H1++[.list (([]:List Key).map Aa)]) ⟨rfl,rfl⟩ ?_
  rintro v K ⟨rfl,rfl⟩
  have ll:=Gi og (b:=b) (s:=s) (l:=l)
  obtain ⟨I,hI⟩:=Dr (fun (i:Nat) (Γ:Env') (K:Hp)=>∃ a5 a6 a7,Γ=[some (.script ns),some (.loc l),some (.int n),some (.int e),some (.loc H1.length),a5,a6,a7] /\ K=H1++[.list (((Gj i c).filter (Ik g r c n e)).map Aa)])
  refine D9 (I r) ?_ ?_
  · refine Dk (n:=r) I ?_ ⟨by exact Am6 hS' ll,by exact Am7 hS' ll⟩ ((hI _ _ _).mpr ⟨_,_,_,rfl,rfl⟩) ?_ (fun Γ K h=>by rw [Int.toNat_natCast] at h;exact h)
    · show Wp (bfV .len [.loc l]) _ _ _
      rw [Ar (Ext.get ⟨_,rfl⟩ G1.top),ll];exact ⟨rfl,rfl⟩
    · intro i Γ K hi h
      refine ex3 ((hI _ _ _).mp h) fun a5 a6 a7 zz=>Ac zz fun zr3 zr4=>?_;subst zr3;subst zr4
      have hi':i < r:=by exact Am8 hi ll
      obtain ⟨J,hJ⟩:=Dr (fun (j:Nat) (Γ:Env') (K:Hp)=>∃ a6 a7,Γ=[some (.script ns),some (.loc l),some (.int n),some (.int e),some (.loc H1.length),some (.int (i:Int)),a6,a7] /\ K=H1++[.list (((Gj i c++Eb i j).filter (Ik g r c n e)).map Aa)])
      refine Dk (n:=c) J ?_ ⟨by exact Ahy hS',by exact Ahz hS'⟩ ((hJ _ _ _).mpr ⟨_,_,rfl,by rw [show Eb i 0=[] from rfl,List.append_nil]⟩) ?_ ?_
      · refine Af fun G kG=>?_
        refine ex1 (Xs hS og G1) fun w zz=>An zz fun h1 h2 lw=>?_
        refine kG ?_
        have e0:Ext H1 (H1++[HObj.list (((Gj i c).filter (Ik g r c n e)).map Aa)]):=⟨_,rfl⟩
        show Wp (De (.loc l) (.int 0)) _ (fun v H'=>Wp (bfV .len [v]) H' _ _) _
        rw [Aif h1 (e0.get G1.top) (e0.get h2),lw];exact ⟨rfl,rfl⟩
      · intro j Γ K hj h
        refine ex2 ((hJ _ _ _).mp h) fun a6 a7 zz=>Ac zz fun zr2 zr3=>?_;subst zr2;subst zr3
        refine Aca hS og G1 hi' (by exact X9 hj) h0 ?_ fun a7=>(hJ _ _ _).mpr ⟨_,_,rfl,?_⟩
        · have t1:=List.length_filter_le (Ik g r c n e) (Gj i c++Eb i j)
          rw [List.length_append,Ff,Op] at t1
          have t2:=Nat.mul_le_mul (show i <= 29 by exact Am9 hi hS' ll) (show c <= 30 by exact Afk hS')
          exact Ana hj hS' t2 t1
        · rw [M7,<- List.append_assoc,<- List.filter_append]
      · intro Γ K h
        refine ex2 ((hJ _ _ _).mp h) fun a6 a7 zz=>Ac zz fun zr2 zr3=>?_;subst zr2;subst zr3
        refine (hI _ _ _).mpr ⟨_,_,_,rfl,?_⟩
        rw [Int.toNat_natCast,<- M6]
  intro Γ K h
  refine Af fun G kG=>?_
  refine ex3 ((hI _ _ _).mp h) fun a5 a6 a7 zz=>Ac zz fun zr3 zr4=>?_;subst zr3;subst zr4
  refine kG ?_
  exact ⟨H1.length,n,e,rfl,e1.len,e1.trans ⟨_,rfl⟩,Al H1 _⟩
end
theorem Acb (es:List (Key × Val)) (k:Key) (v:Val) (k':Key):inD (Gk es k v) (Aa k')=true↔(inD es (Aa k')=true \/ k'=k):=by
  show (Ec (Gk es k v) k').isSome=true↔((Ec es k').isSome=true \/ k'=k)
  rw [Ls]
  by_cases e:k'=k
  · rw [if_pos e];exact ⟨fun _=>.inr e,fun _=>rfl⟩
  · rw [if_neg e];exact ⟨fun h=>.inl h,fun h=>h.resolve_right e⟩
section
variable {T:Tab} {Φ:Funs} {Γ:Env'} {H K:Hp} {Q:Val -> Hp -> Prop} {E:Nat -> Hp -> Prop} {d:Nat} {QS:Env' -> Hp -> Prop} {R:Val -> Hp -> Prop} {ES:Nat -> Env' -> Hp -> Prop} {l b s r c:Nat} {g:List (List Val)}
theorem Aeq (hS:OkS r c) (og:OkG g r c) (G:GAt H l b s g) {x1 x2 x3:Option Val}:wpE T_09 (Ai T_09 (d+4)) (.new 7 (.cons (.comp (.bf .list (.cons (.var 4) .nil)) (.var 0) .none) .nil)) [some (.loc l),x1,x2,x3] H (fun v K=>∃ o lg b' ls,v=.loc o /\ Ext H K /\ LandAt K o r c lg b' 1 ls g [] /\ H.length <= ls) NoE:=by
  unfold OkS at hS
  refine Oj (l:=l) (b:=b) (s:=s) (g:=g) rfl G (by rw [og.len];show r < 16777216;exact Anb hS) ⟨rfl,rfl⟩ ?_
  intro K e GK hK
  refine (Ab0 (d:=d+1) (by unfold OkS;exact hS) og GK).then ?_
  intro v K2 zz
  refine An zz fun zr0 e2 zz=>ex3 zz fun lg b' ls zz=>Cm zz fun L _ _ h3=>?_;subst zr0
  exact ⟨_,lg,b',ls,rfl,e.trans e2,L,zC e.len (zL h3)⟩
theorem Acc {o lg b' ls i j:Nat} {es:List (Key × Val)} {w:List Val} {a:Int} {x0 x1:Val} (LK:LandAt K o r c lg b' 1 ls g es) (hi:i < r) (hj:j < c) (hw:g[i]?=some w) (hx:w[j]?=some (.int a)) (el:es.length < 1000)
    (q:QS [some x0,some x1,some (.loc o),some (Aa ((i:Int),(j:Int)))] (K.set ls (.dict (Gk es ((i:Int),(j:Int)) (.bool true))))) :
    wpSs T_09 (Ai T_09 (d+4)) (.cons (.expr (.umeth (.var 2) 3 (.cons (.var 3) .nil))) .nil) [some x0,some x1,some (.loc o),some (Aa ((i:Int),(j:Int)))] K QS R NoX:=by
  have hlid:lid=16777216:=rfl
  refine ex1 LK.inst fun fs zz=>Ac zz fun f0 _=>?_
  show Wp (C2 T_09 (.loc o) 3) K _ _
  rw [Ej f0 (show T_09.meth 7 3=some 26 from rfl)]
  refine (Q9 (d:=d) hi hj LK hw hx (by exact Acz el hlid)).then ?_
  rintro v K' ⟨_,rfl⟩
  exact q
theorem Xv {m:Nat} {ks:List Key} (hS:OkS r c) (og:OkG g r c) (G:GAt H l b s g) (hm:H[m]?=some (.list (ks.map Aa))) (hk:∀ k∈ks,∃ a,hgt g r c k=some a) (kl:ks.length < 1000) :
    Wp (Ai T_09 (d+5) 15 [.loc l,.loc m]) H (fun v H'=>∃ o lg b' ls es,v=.loc o /\ Ext H H' /\ LandAt H' o r c lg b' 1 ls g es /\ ∀ k,inD es (Aa k)=true↔k∈ks) NoE:=by
  rw [As (g:=Y1) rfl rfl]
  refine Au _ (Aeq hS og G) ?_
  clear G hS
  intro v K zz
  refine ex4 zz fun o lg b' ls zz=>Cm zz fun zr4 e L h4=>?_;subst zr4
  obtain ⟨I,hI⟩:=Dr (fun (n:Nat) (Γ:Env') (K:Hp)=>∃ es a,Γ=[some (.loc l),some (.loc m),some (.loc o),a] /\ Ext H K /\ LandAt K o r c lg b' 1 ls g es /\ (∀ k,inD es (Aa k)=true↔k∈ks.take n) /\ es.length <= n)
  refine D9 (I ks.length) ?_ ?_
  · apply C5
    show En (Cy (.loc m) K) _
    rw [Bj (Bx (e.get hm))]
    show WpS (E4 (chk (some m) (ks.map Aa)) (Nm 3) _ (ks.map Aa) _ _) _ _ _
    refine B9 I ((hI _ _ _).mpr ⟨[],none,rfl,e,L,(fun k=>⟨(fun h=>nomatch h),(fun h=>nomatch h)⟩),zI _⟩) ?_ ?_ ?_
    · intro Γ K h
      rw [List.length_map] at h;exact h
    · intro n Γ K _ h
      refine Af fun G kG=>?_
      refine ex2 ((hI _ _ _).mp h) fun es a zz=>An zz fun _ eK _=>?_
      refine kG ?_
      exact B4 (eK.get hm)
    · clear L e
      intro n z Γ K hz h
      refine Af fun G kG=>?_
      refine ex2 ((hI _ _ _).mp h) fun es a zz=>Fo zz fun zr2 eK LK hes el=>?_;subst zr2
      refine ex1 (G8 hz) fun q zz=>Ac zz fun hq zr2=>?_;subst zr2
      have ln:=(List.getElem?_eq_some_iff.mp hq).1
      obtain ⟨y,hy⟩:=hk q (zF hq)
      refine ex2 (Ea (Gu hy)) fun i j zz=>An zz fun zr2 hi hj=>?_;subst zr2
      refine ex2 (Fj og hi hj) fun w x zz=>An zz fun hw hx hcase=>?_
      refine kG ?_
      rcases hcase with ⟨_,hn⟩ | ⟨a',rfl,ha0,ha'⟩
      · rw [hn] at hy;cases hy
      refine ⟨_,rfl,Acc LK hi hj hw hx (by exact Anc kl ln el) ((hI _ _ _).mpr ⟨_,_,rfl,eK.set h4 _,LK.sink,fun k=>?_,zC (Fe _ _ _) (Nat.succ_le_succ el)⟩)⟩
      rw [Acb,hes,Bg hq]
  intro Γ K h
  refine Af fun G kG=>?_
  refine ex2 ((hI _ _ _).mp h) fun es a zz=>Fo zz fun zr2 eK LK hes _=>?_;subst zr2
  refine kG ?_
  rw [List.take_length] at hes
  exact ⟨o,lg,b',ls,es,rfl,eK,LK,hes⟩
theorem P1 {cnd e:ME} {ks:List Key} {q:Key} {K0:Hp} {ll rr cc:Nat} {v0 v1:Option Val} (kl:ks.length < 100) (hl:ll=K0.length)
    (hc:wpE T Φ cnd [v0,v1,some (.loc ll)] (K0++[.list (ks.map Aa)]) (fun v K=>v=.bool (inR rr cc q) /\ K=K0++[.list (ks.map Aa)]) NoE)
    (he:wpE T Φ e [v0,v1,some (.loc ll)] (K0++[.list (ks.map Aa)]) (fun v K=>v=Aa q /\ K=K0++[.list (ks.map Aa)]) NoE)
    {ss:MSs} (hq:wpSs T Φ ss [v0,v1,some (.loc ll)] (K0++[.list ((ks++[q].filter (inR rr cc)).map Aa)]) QS R ES):wpSs T Φ (.cons (.ite cnd (.cons (.expr (.bm (.var 2) .append (.cons e .nil))) .nil) .nil) ss) [v0,v1,some (.loc ll)] (K0++[.list (ks.map Aa)]) QS R ES:=by
  have hlid:lid=16777216:=rfl
  subst hl
  refine A4 hc ?_
  rintro v K ⟨rfl,e1⟩
  rw [e1];clear e1 K
  refine B8 (fun h=>?_) (fun h=>?_)
  · rw [List.filter_cons_of_pos h] at hq
    refine Iv (fun K=>K=K0++[.list ((ks++[q]).map Aa)]) ?_ (fun K h=>by rw [h];exact hq)
    refine Cw rfl (Al K0 _) (A4 he ?_)
    rintro v K ⟨rfl,rfl⟩
    refine ⟨_,Al K0 _,by rw [List.length_map];exact Ane kl hlid,?_⟩
    rw [Lq,List.map_append];rfl
  · rw [List.filter_cons_of_neg (by rw [h];exact Bool.false_ne_true),List.filter_nil,List.append_nil] at hq
    skip;exact hq
theorem I6 (hS:OkS r c) (og:OkG g r c) (G:GAt H l b s g):Wp (De (.loc l) (.int 0)) H (fun v H'=>Wp (bfV .len [v]) H' Q E) E=Q (.int (c:Int)) H:=by
  refine ex1 (Xs hS og G) fun w zz=>An zz fun h1 h2 lw=>?_
  rw [show (0:Int)=((0:Nat):Int) from rfl,Dx G.top h1,Ar h2,lw]
theorem Acd (r c:Nat) (i j:Int):bes r c i j=((([]++[(i - 1,j)].filter (inR r c))++[(i,j - 1)].filter (inR r c))++[(i,j+1)].filter (inR r c))++[(i+1,j)].filter (inR r c):=by
  unfold bes On
  rw [List.nil_append,<- List.filter_append,<- List.filter_append,<- List.filter_append];rfl
set_option maxHeartbeats 1000000 in
theorem U1 {i r:Nat} (h:i < r):(i:Int) - 1 < r:=Int.lt_of_le_of_lt (Int.sub_le_self _ (by decide)) (Int.ofNat_lt.mpr h)
theorem J3 {i j:Nat} (hS:OkS r c) (og:OkG g r c) (G:GAt H l b s g) (hi:i < r) (hj:j < c) :
    Wp (Ai T_09 (d+1) 16 [.loc l,.tup [.int (i:Int),.int (j:Int)]]) H (fun v H'=>∃ m,v=.loc m /\ H.length <= m /\ Ext H H' /\ H'[m]?=some (.list (((bes r c i j).filter (fun q=>(hgt g r c q).isSome)).map Aa))) NoE:=by
  have hlid:lid=16777216:=rfl
  have hS':=hS
  unfold OkS at hS'
  have GX:∀ ob,GAt (H++[ob]) l b s g:=fun ob=>G.ext ⟨_,rfl⟩
  have ll:=Gi og (b:=b) (s:=s) (l:=l)
  have l1:∀ k:Key,([k].filter (inR r c)).length <= 1:=fun k=>List.length_filter_le _ _
  rw [As (g:=Y2) rfl rfl]
  refine Au (fun v K=>v=.loc H.length /\ K=H++[.list (([]:List Key).map Aa)]) ⟨rfl,rfl⟩ ?_
  rintro v K ⟨rfl,e⟩
  rw [e];clear e K
  have a1:=l1 ((i:Int) - 1,(j:Int))
  have a2:=l1 ((i:Int),(j:Int) - 1)
  have a3:=l1 ((i:Int),(j:Int)+1)
  refine P1 (q:=((i:Int) - 1,(j:Int))) (rr:=r) (cc:=c) (by decide) rfl ?_ (by exact ⟨rfl,rfl⟩) ?_
  · refine ⟨?_,rfl⟩
    exact congrArg Val.bool (decide_eq_decide.mpr ⟨fun h=>⟨Int.le_sub_one_of_lt h,U1 hi,Int.natCast_nonneg j,Int.ofNat_lt.mpr hj⟩,fun h=>Int.lt_of_le_sub_one h.1⟩)
  refine P1 (q:=((i:Int),(j:Int) - 1)) (rr:=r) (cc:=c) (by simp only [List.length_append,List.length_nil];exact Anf a1) rfl ?_ (by exact ⟨rfl,rfl⟩) ?_
  · refine ⟨?_,rfl⟩
    exact congrArg Val.bool (decide_eq_decide.mpr ⟨fun h=>⟨Int.natCast_nonneg i,Int.ofNat_lt.mpr hi,Int.le_sub_one_of_lt h,U1 hj⟩,fun h=>Int.lt_of_le_sub_one h.2.2.1⟩)
  refine P1 (q:=((i:Int),(j:Int)+1)) (rr:=r) (cc:=c) (by simp only [List.length_append,List.length_nil];exact Ang a1 a2) rfl ?_ (by exact ⟨rfl,rfl⟩) ?_
  · show Wp (De (.loc l) (.int 0)) _ (fun v H'=>Wp (bfV .len [v]) H' _ _) _
    rw [I6 hS og (GX _)]
    exact ⟨congrArg Val.bool (decide_eq_decide.mpr ⟨fun h=>⟨Int.natCast_nonneg i,Int.ofNat_lt.mpr hi,Int.natCast_nonneg (j+1),h⟩,fun h=>h.2.2.2⟩),rfl⟩
  refine P1 (q:=((i:Int)+1,(j:Int))) (rr:=r) (cc:=c) (by simp only [List.length_append,List.length_nil];exact Anh a1 a2 a3) rfl ?_ (by exact ⟨rfl,rfl⟩) ?_
  · show Wp (bfV .len [.loc l]) _ _ _
    rw [Ar (GX _).top,ll]
    exact ⟨congrArg Val.bool (decide_eq_decide.mpr ⟨fun h=>⟨Int.natCast_nonneg (i+1),h,Int.natCast_nonneg j,Int.ofNat_lt.mpr hj⟩,fun h=>h.2.1⟩),rfl⟩
  rw [<- Acd]
  have blen:=Uu r c i j
  have bin:∀ q∈bes r c i j,inR r c q=true:=fun q hq=>(Ii.mp hq).2
  generalize bes r c i j=bs at *
  have e0:Ext H (H++[HObj.list (bs.map Aa)]):=⟨_,rfl⟩
  refine Uw (l:=H.length) (ks:=bs) (p:=fun q=>(hgt g r c q).isSome) rfl (Al H _) (by exact Ani blen) ⟨rfl,rfl⟩ (fun q hq=>?_) ⟨_,rfl,by rw [List.length_append];exact zM _ _,e0.new _,Al _ _⟩
  refine Af fun G kG=>?_
  refine ex2 (Ea (bin q hq)) fun i' j' zz=>An zz fun zr2 hi' hj'=>?_;subst zr2
  refine ex2 (Fj og hi' hj') fun w y zz=>An zz fun hw hy hcase=>?_
  refine kG ?_
  show Wp (De (.loc l) (.int (i':Int))) _ (fun v H'=>Wp (De v (.int (j':Int))) H' _ _) _
  rw [Ab8 (GX _) hw hy]
  rcases hcase with ⟨rfl,hn⟩ | ⟨a,rfl,_,ha⟩
  · rw [hn];exact ⟨rfl,rfl⟩
  · rw [ha];exact ⟨rfl,rfl⟩
end
end Mine.Internal.Pure
namespace Mine.Internal.Pure
open PySem
noncomputable def U2 (lo hi:Int):Val -> Bool
  | .int i=>decide (lo <= i) && decide (i <= hi)
  | _=>false
noncomputable def J8 (r c:Nat):Val -> Option Key
  | .tup [.int i,.int j]=>if inR r c (i,j)=true then some (i,j) else none
  | _=>none
noncomputable def Ae7:Val -> Prop
  | .none=>True
  | .bool _=>True
  | .int _=>True
  | .str _=>True
  | .tup _=>True
  | _=>False
noncomputable def Kn (H:Hp):Val -> Prop
  | .none=>True
  | .str _=>True
  | .tup vs=>∀ x∈vs,Ae7 x
  | .loc l=>∃ xs,H[l]?=some (.list xs)
  | _=>False
section
variable {T:Tab} {Φ:Funs} {Γ:Env'} {H:Hp} {Q:Val -> Hp -> Prop} {E:Nat -> Hp -> Prop} {d:Nat} {QS:Env' -> Hp -> Prop} {R:Val -> Hp -> Prop} {ES:Nat -> Env' -> Hp -> Prop} {r c:Nat}
theorem Kv {x:Val} {lo hi:Int} (h:Ae7 x):Wp (Ai T_09 (d+1) 0 [x,.int lo,.int hi]) H Q E=Q (.bool (U2 lo hi x)) H:=by
  rw [As (g:=Q6) rfl rfl]
  cases x with
  | int i =>
    show brB (decide (lo <= i)) _ _=Q (.bool (decide (lo <= i) && decide (i <= hi))) H
    cases decide (lo <= i) <;> rfl
  | none=>rfl
  | bool b=>rfl
  | str s=>rfl
  | tup vs=>rfl
  | _=>cases h
theorem U3 (r c:Nat) (x y:Val):(J8 r c (.tup [x,y])).isSome=(U2 0 ((r:Int) - 1) x && U2 0 ((c:Int) - 1) y):=by
  have no:∀ v:Val,J8 r c v=none -> (J8 r c v).isSome=false:=fun v h=>by rw [h];rfl
  cases x with
  | int i =>
    cases y with
    | int j =>
      show (if inR r c (i,j)=true then some (i,j) else none).isSome=((decide (0 <= i) && decide (i <= (r:Int) - 1)) && (decide (0 <= j) && decide (j <= (c:Int) - 1)))
      by_cases h:inR r c (i,j)=true
      · rw [if_pos h]
        have h:0 <= i /\ i < r /\ 0 <= j /\ j < c:=of_decide_eq_true h
        rw [decide_eq_true (show 0 <= i by exact Anj h),decide_eq_true (show i <= (r:Int) - 1 by exact Ahp h),decide_eq_true (show 0 <= j by exact Ank h),decide_eq_true (show j <= (c:Int) - 1 by exact Aho h)];rfl
      · rw [if_neg h]
        cases q:((decide (0 <= i) && decide (i <= (r:Int) - 1)) && (decide (0 <= j) && decide (j <= (c:Int) - 1))) with
        | false=>rfl
        | true =>
          simp only [Bool.and_eq_true,decide_eq_true_eq] at q
          exact absurd (decide_eq_true (show 0 <= i /\ i < r /\ 0 <= j /\ j < c by exact Anl q)) h
    | _=>exact (Bool.and_false _).symm
  | _=>rfl
noncomputable def U4:Val -> Prop
  | .tup [_,_]=>False
  | _=>True
theorem Ace (v:Val):(∃ x y,v=.tup [x,y]) \/ (U4 v /\ ∀ r c,J8 r c v=none):=by
  cases v with
  | tup vs =>
    cases vs with
    | nil=>exact .inr ⟨trivial,fun _ _=>rfl⟩
    | cons x vs =>
      cases vs with
      | nil=>exact .inr ⟨trivial,fun _ _=>by cases x <;> rfl⟩
      | cons y vs =>
        cases vs with
        | nil=>exact .inl ⟨x,y,rfl⟩
        | cons z vs=>exact .inr ⟨trivial,fun _ _=>by cases x <;> first | rfl | (cases y <;> rfl)⟩
  | _=>exact .inr ⟨trivial,fun _ _=>rfl⟩
theorem Agp {v:Val} {i:Nat} (k:Kn H v) (np:U4 v) (hi:Γ[i]?=some (some v)) (q:Q (.bool true) H) {e:ME} :
    wpE T Φ (.or (.not (.isinst (.var i) .tuple)) (.or (.cmp .ne (.bf .len (.cons (.var i) .nil)) (.int 2)) e)) Γ H Q E /\ wpE T Φ (.or (.not (.isinst (.var i) .tuple)) (.cmp .ne (.bf .len (.cons (.var i) .nil)) (.int 2))) Γ H Q E:=by
  have len:∀ {Q:Val -> Hp -> Prop} {vs:List Val},v=.tup vs -> Q (.bool true) H -> wpE T Φ (.cmp .ne (.bf .len (.cons (.var i) .nil)) (.int 2)) Γ H Q E:=fun {Q vs} ev q=>by
    subst ev
    rw [A2,Dq,wcv hi,Ax,D2,A8,Oe]
    have:vs.length≠2:=fun e=>by
      match vs,e with
      | [_,_],_=>exact np
    rw [decide_eq_false (show ¬ ((vs.length:Int)=2) by exact Anm this)]
    exact q
  rw [Eo,C8,Cl,wvr hi]
  rw [Eo,C8,Cl,wvr hi]
  cases v with
  | none=>exact ⟨q,q⟩
  | str y=>exact ⟨q,q⟩
  | tup vs =>
    refine ⟨?_,len rfl q⟩
    show wpE T Φ (.or _ _) Γ H Q E
    rw [Eo]
    exact len rfl q
  | loc l =>
    obtain ⟨xs,h⟩:=k
    rw [Jw l xs h,Jw l xs h]
    exact ⟨q,q⟩
  | _=>cases k
theorem U5 {v:Val} (k:Kn H v):Wp (Ai T_09 (d+2) 1 [.int (r:Int),.int (c:Int),v]) H (fun w K=>w=.bool (J8 r c v).isSome /\ K=H) NoE:=by
  rw [As (g:=Oi) rfl rfl,Oi]
  rcases Ace v with ⟨x,y,rfl⟩ | ⟨np,hp⟩
  · have kx:=k x (.head _)
    have ky:=k y (.tail _ (.head _))
    rw [U3]
    show Wp (Ai T_09 (d+1) 0 [x,.int 0,.int ((r:Int) - 1)]) H _ _
    rw [Kv kx]
    refine B8 (fun e=>?_) fun e=>?_
    · rw [e]
      show Wp (Ai T_09 (d+1) 0 [y,.int 0,.int ((c:Int) - 1)]) H _ _
      rw [Kv ky]
      exact ⟨rfl,rfl⟩
    · rw [e];exact ⟨rfl,rfl⟩
  · rw [hp,Ag,Bb]
    exact (Agp k np rfl ⟨rfl,rfl⟩ (e:=.none)).2
end
end Mine.Internal.Pure
namespace Mine.Internal.Pure
open PySem Pile
section
variable {h:Key -> Option Int} {D:Key -> Prop} {F:Key -> Option Int} {gs:List (Key × Val)} {k:Key} {ws:List Key}
end
theorem Kw (r c:Nat):(Gj r c).Nodup:=by
  have:=J2 r c
  rw [<- Ij] at this
  exact List.Pairwise.imp (fun h e=>h (congrArg Aa e)) (List.pairwise_map.mp this)
theorem Hu {r c:Nat} {ws:List Key} (nd:ws.Nodup) (hin:∀ q∈ws,q∈Gj r c):ws.length <= r * c:=by
  have p:((Gj r c).filter (fun k=>decide (k∈ws))).Perm ws:=by
    rw [List.perm_ext_iff_of_nodup ((Kw r c).sublist List.filter_sublist) nd]
    intro k
    rw [List.mem_filter,decide_eq_true_eq]
    exact ⟨fun h=>h.2,fun h=>⟨hin k h,h⟩⟩
  rw [<- p.length_eq,<- Ff r c]
  exact List.length_filter_le _ _
section
variable {H:Hp} {Q:Val -> Hp -> Prop} {E:Nat -> Hp -> Prop}
end
section
variable {T:Tab} {Φ:Funs} {Γ:Env'} {H K:Hp} {Q:Val -> Hp -> Prop} {E:Nat -> Hp -> Prop} {d:Nat} {QS:Env' -> Hp -> Prop} {R:Val -> Hp -> Prop} {ES:Nat -> Env' -> Hp -> Prop} {l b s r c:Nat} {g:List (List Val)} {F:Key -> Option Int}
theorem Lu {α:Type} {f:Val -> Option PyData} {v:α -> Val} {gd:α -> PyData} (ks:List α) (h:∀ k∈ks,f (v k)=some (gd k)):I1 f (ks.map v)=some (ks.map gd):=by
  induction ks with
  | nil=>rfl
  | cons k ks ih =>
    show (match f (v k),I1 f (ks.map v) with | some d,some ds=>some (d :: ds) | _,_=>none)=_
    rw [h k (.head _),ih (fun k hk=>h k (.tail _ hk))];rfl
theorem Acf {ld:Nat} {ks:List Key} {k:Key} (h:H[ld]?=some (.list (ks.map Aa))):Dl .isin (Aa k) (.loc ld) H=some (decide (k∈ks)):=by
  have e:Dl .isin (Aa k) (.loc ld) H=inV (Aa k) (.loc ld) H:=rfl
  have dk:∀ q:Key,A5 H Fi (Aa q)=some (.tuple [.int q.1,.int q.2]):=fun q=>rfl
  have ds:I1 (A5 H Fi) (ks.map Aa)=some (ks.map fun q=>PyData.tuple [.int q.1,.int q.2]):=by
    exact Lu ks (fun k _=>dk k)
  rw [e]
  unfold inV
  simp only [h]
  unfold L4
  rw [dk,ds]
  show some (List.any (ks.map fun q=>PyData.tuple [.int q.1,.int q.2]) fun y=>PyData.eqv y (.tuple [.int k.1,.int k.2]))=_
  congr 1
  rw [Bool.eq_iff_iff,List.any_eq_true,decide_eq_true_eq]
  have ev:∀ q:Key,PyData.eqv (.tuple [.int q.1,.int q.2]) (.tuple [.int k.1,.int k.2])=(q.1 == k.1 && (q.2 == k.2 && true)):=fun q=>rfl
  constructor
  · rintro ⟨y,hy,h1⟩
    refine ex1 (List.mem_map.mp hy) fun q zz=>Ac zz fun hq zr2=>?_;subst zr2
    rw [ev] at h1
    simp at h1
    rw [<- Prod.ext h1.1 h1.2];exact hq
  · intro hk
    refine ⟨_,List.mem_map.mpr ⟨k,hk,rfl⟩,?_⟩
    rw [ev];simp
theorem Lst.non_ {ks:List Key} {o:Option Int} {q:Key} (L:Lst F ks o) (h:F q=none):Lst F (ks++[q]) o:=by
  refine ⟨fun e k hk=>?_,fun l e=>?_⟩
  · rcases List.mem_append.mp hk with hk | hk
    · exact L.non e k hk
    · cases List.mem_singleton.mp hk;exact h
  · obtain ⟨⟨k,hk,hf⟩,hall⟩:=L.one l e
    refine ⟨⟨k,List.mem_append.mpr (.inl hk),hf⟩,fun k' hk' f hf'=>?_⟩
    rcases List.mem_append.mp hk' with hk' | hk'
    · exact hall k' hk' f hf'
    · cases List.mem_singleton.mp hk';rw [h] at hf';cases hf'
theorem Lst.less {ks:List Key} {o:Option Int} {q:Key} {f:Int} (L:Lst F ks o) (h:F q=some f) (hl:∀ l,o=some l -> f < l):Lst F (ks++[q]) (some f):=by
  refine ⟨(fun e=>nomatch e),fun l e=>?_⟩
  cases e
  refine ⟨⟨q,List.mem_append.mpr (.inr (List.mem_singleton.mpr rfl)),h⟩,fun k' hk' f' hf'=>?_⟩
  rcases List.mem_append.mp hk' with hk' | hk'
  · cases o with
    | none=>rw [L.non rfl k' hk'] at hf';cases hf'
    | some l =>
      have t1:=(L.one l rfl).2 k' hk' f' hf'
      have t2:=hl l rfl
      exact Afi t2 t1
  · cases List.mem_singleton.mp hk';rw [h] at hf';cases hf';exact Int.le_refl _
theorem Lst.stay {ks:List Key} {l f:Int} {q:Key} (L:Lst F ks (some l)) (h:F q=some f) (hl:l <= f):Lst F (ks++[q]) (some l):=by
  refine ⟨(fun e=>nomatch e),fun l' e=>?_⟩
  cases e
  obtain ⟨⟨k,hk,hf⟩,hall⟩:=L.one l rfl
  refine ⟨⟨k,List.mem_append.mpr (.inl hk),hf⟩,fun k' hk' f' hf'=>?_⟩
  rcases List.mem_append.mp hk' with hk' | hk'
  · exact hall k' hk' f' hf'
  · cases List.mem_singleton.mp hk';rw [h] at hf';cases hf';exact hl
theorem Lw {i j:Nat} {q:Key}:q∈(bes r c i j).filter (fun q=>(hgt g r c q).isSome)↔(Adj ((i:Int),(j:Int)) q /\ hgt g r c q≠none):=by
  rw [List.mem_filter,Ii]
  constructor
  · rintro ⟨⟨h1,_⟩,h2⟩
    exact ⟨h1,fun c=>by rw [c] at h2;cases h2⟩
  · rintro ⟨h1,h2⟩
    cases e:hgt g r c q with
    | none=>exact absurd e h2
    | some y=>exact ⟨⟨h1,Gu e⟩,rfl⟩
theorem M8 {l:Nat} {es:List (Key × Val)} {i j:Int} (h:H[l]?=some (.dict es)):Dl .isin (.tup [.int i,.int j]) (.loc l) H=some ((Ec es (i,j)).isSome):=by
  show inV (.tup [.int i,.int j]) (.loc l) H=_
  unfold inV
  simp only [h];rfl
theorem Lx {es:List (Key × Val)} {k:Key} (hes:Has es F):(Ec es k).isSome=(F k).isSome:=by
  rw [hes k];cases F k <;> rfl
theorem Aer {ks:List Key} {ol:Option Int} {le:Nat} {es:List (Key × Val)} {k:Key} {x0 x1:Val} (ge:H[le]?=some (.dict es)) (hes:Has es F) (L:Lst F ks ol)
    (q:∀ ol',Lst F (ks++[k]) ol' -> QS [some x0,some x1,some (.loc le),some (ov ol'),some (Aa k)] H) :
    wpSs T Φ zT13 [some x0,some x1,some (.loc le),some (ov ol),some (Aa k)] H QS R ES:=by
  have look:∀ {Q:Val -> Hp -> Prop} {E:Nat -> Hp -> Prop} {f:Int} {a:Val},F k=some f -> Q (.int f) H -> wpE T Φ (.sub (.var 2) (.var 4)) [some x0,some x1,some (.loc le),some a,some (Aa k)] H Q E:=fun {Q E f a} hf qq=>by
    show Wp (De (.loc le) (.tup [.int k.1,.int k.2])) H _ _
    rw [G7 ge (show Ec es (k.1,k.2)=some (.int f) by rw [hes];skip;rw [hf];rfl)];exact qq
  rw [Ag,Bb,Ei,A2]
  show En (Dl .isin (.tup [.int k.1,.int k.2]) (.loc le) H) _
  rw [M8 ge,Ck,Ad,show (Ec es (k.1,k.2)).isSome=(F k).isSome from Lx hes]
  cases hf:F k with
  | none=>exact q ol (L.non_ hf)
  | some f =>
    rw [show (some f:Option Int).isSome=true from rfl,Ce,Eo,A2]
    cases ol with
    | none =>
      show wpSs T Φ _ _ H _ _ _
      rw [Ag]
      exact look hf (q (some f) (L.less hf (fun l e=>nomatch e)))
    | some l0 =>
      rw [wvr (v:=.int l0) rfl,Dc,B3,Ad,C4]
      refine look hf ?_
      refine Fz (fun h=>?_) fun h=>?_
      · rw [Ag]
        exact look hf (q (some f) (L.less hf (fun l e=>by cases e;exact h)))
      · exact q (some l0) (L.stay hf (by exact Ae0 h))
theorem U6 {i j le:Nat} {es:List (Key × Val)} (hS:OkS r c) (og:OkG g r c) (G:GAt H l b s g) (hi:i < r) (hj:j < c) (ge:H[le]?=some (.dict es)) (hes:Has es F) :
    Wp (Ai T_09 (d+2) 17 [.loc l,.tup [.int (i:Int),.int (j:Int)],.loc le]) H (fun v H'=>∃ ol,v=ov ol /\ Ext H H' /\ Lst F ((bes r c i j).filter (fun q=>(hgt g r c q).isSome)) ol) NoE:=by
  rw [As (g:=Y3) rfl rfl]
  refine Au (fun v K=>v=.none /\ H=K) ⟨rfl,rfl⟩ ?_
  rintro v K ⟨rfl,rfl⟩
  refine D9 (QS:=_) (fun Γ K=>∃ ol a,Γ=[some (.loc l),some (.tup [.int (i:Int),.int (j:Int)]),some (.loc le),some (ov ol),a] /\ Ext H K /\ Lst F ((bes r c i j).filter (fun q=>(hgt g r c q).isSome)) ol) ?_ ?_
  · apply C5
    refine (J3 (d:=d) hS og G hi hj).then ?_
    intro v K zz
    refine ex1 zz fun m zz=>Cm zz fun zr1 _ ex gm=>?_;subst zr1
    rw [Bj (Bx gm)]
    generalize hks:(bes r c i j).filter (fun q=>(hgt g r c q).isSome)=ks at *
    obtain ⟨I,hI⟩:=Dr (fun (n:Nat) (Γ:Env') (K':Hp)=>K=K' /\ ∃ ol a,Γ=[some (.loc l),some (.tup [.int (i:Int),.int (j:Int)]),some (.loc le),some (ov ol),a] /\ Lst F (ks.take n) ol)
    show WpS (E4 (chk (some m) (ks.map Aa)) (Nm 4) _ (ks.map Aa) _ _) _ _ _
    refine B9 I ((hI _ _ _).mpr ⟨rfl,none,_,rfl,⟨fun _ k hk=>(nomatch hk),fun l e=>nomatch e⟩⟩) ?_ ?_ ?_
    · intro Γ K' h
      refine Ac ((hI _ _ _).mp h) fun zr0 zz=>ex2 zz fun ol a zz=>Ac zz fun zr3 L=>?_;subst zr0;subst zr3
      rw [List.length_map,List.take_length] at L
      exact ⟨ol,a,rfl,ex,L⟩
    · intro n Γ K' _ h
      obtain ⟨rfl,_⟩:=(hI _ _ _).mp h
      exact B4 gm
    · intro n z Γ K' hz h
      refine Ac ((hI _ _ _).mp h) fun zr0 zz=>ex2 zz fun ol a zz=>Ac zz fun zr3 L=>?_;subst zr0;subst zr3
      refine ex1 (G8 hz) fun q zz=>Ac zz fun hq hr2=>?_;refine Eq.symm hr2▸?_
      refine ⟨_,rfl,Aer (ex.get ge) hes L fun ol' L'=>(hI _ _ _).mpr ⟨rfl,ol',_,rfl,?_⟩⟩
      rw [Ez hq];exact L'
  · intro Γ K zz
    refine ex2 zz fun ol a zz=>An zz fun zr2 ex L=>?_;subst zr2
    exact ⟨ol,rfl,ex,L⟩
end
theorem Zg {α:Type} {f g:α -> Nat} (le:∀ q,f q <= g q):∀ (l:List α),(l.map f).sum <= (l.map g).sum
  | []=>zI _
  | x :: l=>by rw [List.map_cons,List.map_cons,List.sum_cons,List.sum_cons];exact Nat.add_le_add (le x) (Zg le l)
theorem U7 {α:Type} {f g:α -> Nat} (le:∀ q,f q <= g q) {k:α} (lt:f k < g k):∀ (l:List α),k∈l -> (l.map f).sum < (l.map g).sum
  | x :: l,h=>by
    rw [List.map_cons,List.map_cons,List.sum_cons,List.sum_cons]
    rcases List.mem_cons.mp h with rfl | h
    · exact Nat.add_lt_add_of_lt_of_le lt (Zg le l)
    · exact Nat.add_lt_add_of_le_of_lt (le x) (U7 le lt l h)
theorem Hv {α:Type} {f:α -> Nat} {n:Nat} (h:∀ q,f q <= n):∀ (l:List α),(l.map f).sum <= l.length * n
  | []=>Nat.zero_le _
  | x :: l=>by
    rw [List.map_cons,List.sum_cons,List.length_cons,Nat.succ_mul,Nat.add_comm]
    exact Nat.add_le_add (Hv h l) (h x)
noncomputable def below (h:Key -> Option Int) (f:Int) (q:Key):Nat:=match h q with
  | some a=>if a < f then 1 else 0
  | none=>0
theorem P2 (h:Key -> Option Int) (f:Int) (q:Key):below h f q <= 1:=by
  unfold below
  cases h q with
  | none=>exact Nat.zero_le _
  | some a =>
    dsimp only
    by_cases c:a < f
    · rw [if_pos c];exact zI _
    · rw [if_neg c];exact Nat.zero_le _
theorem Ra {h:Key -> Option Int} {f f':Int} (l:f <= f') (q:Key):below h f q <= below h f' q:=by
  unfold below
  cases h q with
  | none=>exact zI _
  | some a =>
    dsimp only
    by_cases c:a < f
    · rw [if_pos c,if_pos (by exact Ann c l)];exact zI _
    · rw [if_neg c];exact Nat.zero_le _
noncomputable def rnk (h:Key -> Option Int) (ks:List Key):Option Int -> Nat
  | some f=>(ks.map (below h f)).sum
  | none=>ks.length+1
theorem Aes (h:Key -> Option Int) (ks:List Key) (o:Option Int):rnk h ks o <= ks.length+1:=by
  cases o with
  | none=>exact zI _
  | some f =>
    have:=Hv (P2 h f) ks
    show (ks.map (below h f)).sum <= _
    exact Ano this
theorem Aet {h:Key -> Option Int} {ks:List Key} {v:Int} {o:Option Int} (new:∀ f,o=some f -> v < f) (is:∃ q∈ks,h q=some v):rnk h ks (some v) < rnk h ks o:=by
  cases o with
  | none =>
    have:=Hv (P2 h v) ks
    show (ks.map (below h v)).sum < ks.length+1
    exact Anp this
  | some f =>
    refine ex1 is fun q zz=>Ac zz fun hq e=>?_
    have l:=new f rfl
    refine U7 (Ra (Int.le_of_lt l)) (k:=q) ?_ ks hq
    unfold below
    rw [e]
    dsimp only
    rw [if_neg (Int.lt_irrefl v),if_pos l];exact Nat.zero_lt_one
noncomputable def mu (h:Key -> Option Int) (ks:List Key) (F:Key -> Option Int):Nat:=(ks.map fun k=>rnk h ks (F k)).sum
theorem Agq (h:Key -> Option Int) (ks:List Key) (F:Key -> Option Int):mu h ks F <= ks.length * (ks.length+1):=Hv (fun k=>Aes h ks (F k)) ks
theorem Aeu {h:Key -> Option Int} {ks:List Key} {F:Key -> Option Int} {k:Key} {v:Int} (hk:k∈ks) (new:∀ f,F k=some f -> v < f) (is:∃ q∈ks,h q=some v):mu h ks (upd F k v) < mu h ks F:=by
  have lt:=Aet (ks:=ks) new is
  refine U7 (fun q=>?_) (k:=k) ?_ ks hk
  · by_cases e:q=k
    · rw [e,B6];exact zL lt
    · rw [Dy _ _ e];exact zI _
  · rw [B6];exact lt
theorem Rc.isH {h:Key -> Option Int} {D:Key -> Prop} {k:Key} {f:Int} (x:Rc h D k f):∃ q,h q=some f:=by
  induction x with
  | drain d e=>exact ⟨_,e⟩
  | @step p q f a r n e ih =>
    unfold mx
    by_cases c:f > a
    · rw [if_pos c];exact ih
    · rw [if_neg c];exact ⟨_,e⟩
noncomputable def M9 (h F:Key -> Option Int) (k:Key):Prop:=∀ a,h k=some a -> ∀ q fq,Adj k q -> F q=some fq -> ∃ f,F k=some f /\ f <= mx a fq
structure Lt (h:Key -> Option Int) (D:Key -> Prop) (F:Key -> Option Int):Prop where
  snd:∀ k f,F k=some f -> Rc h D k f
  drain:∀ k,D k -> F k=h k
theorem Lt.fin {h:Key -> Option Int} {D:Key -> Prop} {F:Key -> Option Int} (x:Lt h D F) (cl:∀ k a,h k=some a -> M9 h F k):Lv h D F:=by
  refine ⟨x.snd,fun k f r=>?_⟩
  induction r with
  | drain d e=>exact ⟨_,(x.drain _ d).trans e,Int.le_refl _⟩
  | @step p q f a r n e ih =>
    refine ex1 ih fun f' zz=>Ac zz fun h1 h2=>?_
    refine ex1 (cl q a e a e p f' n.symm h1) fun fq zz=>Ac zz fun h3 h4=>?_
    exact ⟨fq,h3,Int.le_trans h4 (Om a h2)⟩
theorem Lt.put {h:Key -> Option Int} {D:Key -> Prop} {F:Key -> Option Int} {k q:Key} {a fq:Int} (x:Lt h D F) (e:h k=some a) (n:Adj k q) (hq:F q=some fq) (new:∀ f,F k=some f -> mx a fq < f):Lt h D (upd F k (mx a fq)):=by
  refine ⟨fun k' f hf=>?_,fun k' d=>?_⟩
  · by_cases c:k'=k
    · rw [c,B6] at hf
      cases hf
      exact c▸.step (x.snd q fq hq) n.symm e
    · rw [Dy _ _ c] at hf;exact x.snd k' f hf
  · by_cases c:k'=k
    · subst c
      have t1:=new a ((x.drain _ d).trans e)
      have t2:=Ae6 a fq
      exact (Afj t1 t2).elim
    · rw [Dy _ _ c];exact x.drain k' d
theorem Lst.closed {h F:Key -> Option Int} {k:Key} {a:Int} {ks:List Key} {o:Option Int} (e:h k=some a) (hk:∀ q,q∈ks↔(Adj k q /\ h q≠none)) (hs:∀ q f,F q=some f -> h q≠none) (L:Lst F ks o) (ok:∀ l,o=some l -> ∃ f,F k=some f /\ f <= mx a l):M9 h F k:=by
  intro a' ha' q fq n hq
  rw [e] at ha';cases ha'
  have mem:q∈ks:=(hk q).mpr ⟨n,hs q fq hq⟩
  cases o with
  | none=>rw [L.non rfl q mem] at hq;cases hq
  | some l =>
    refine ex1 (ok l rfl) fun f zz=>Ac zz fun h1 h2=>?_
    exact ⟨f,h1,Int.le_trans h2 (Om a ((L.one l rfl).2 q mem fq hq))⟩
theorem Lt.high {h:Key -> Option Int} {D:Key -> Prop} {F:Key -> Option Int} (x:Lt h D F) (q:Key) (f:Int) (hf:F q=some f):h q≠none:=fun c=>by
  refine ex1 ((x.snd q f hf).hi) fun a zz=>Ac zz fun ha _=>?_
  rw [c] at ha;cases ha
theorem Acg (a b:Int):mx a b=mx b a:=by
  unfold mx
  by_cases h:b > a
  · rw [if_pos h,if_neg (by exact Anq h)]
  · rw [if_neg h]
    by_cases h2:a > b
    · rw [if_pos h2]
    · rw [if_neg h2];exact Anr h h2
noncomputable abbrev muG (g:List (List Val)) (r c:Nat) (F:Key -> Option Int):Nat:=mu (hgt g r c) (Gj r c) F
section
variable {T:Tab} {Φ:Funs} {Γ:Env'} {H K:Hp} {Q:Val -> Hp -> Prop} {E:Nat -> Hp -> Prop} {d:Nat} {QS:Env' -> Hp -> Prop} {R:Val -> Hp -> Prop} {ES:Nat -> Env' -> Hp -> Prop} {l b s r c le:Nat} {g:List (List Val)} {F:Key -> Option Int} {es:List (Key × Val)} {D:Key -> Prop}
theorem Aig {i j:Nat} {w:List Val} {y:Val} (h0:Γ[0]?=some (some (.loc l))) (h5:Γ[5]?=some (some (.int (i:Int)))) (h6:Γ[6]?=some (some (.int (j:Int)))) (G:GAt H l b s g) (hw:g[i]?=some w) (hy:w[j]?=some y) (q:Q y H):wpE T Φ (.sub (.sub (.var 0) (.var 5)) (.var 6)) Γ H Q E:=by
  rw [A9,A9,wvr h0,wvr h5,Dx G.top (G.item (List.getElem?_eq_some_iff.mp hw).1),wvr h6,Dx (G.row i w hw) hy]
  exact q
theorem Xw {i j:Nat} (h5:Γ[5]?=some (some (.int (i:Int)))) (h6:Γ[6]?=some (some (.int (j:Int)))) (q:Q (.tup [.int (i:Int),.int (j:Int)]) H):wpE T Φ (.tup (.cons (.var 5) (.cons (.var 6) .nil))) Γ H Q E:=by
  rw [Dw,wcv h5,wcv h6]
  exact q
theorem Ach {i j:Nat} {m:Bool} {x1:Val} {x3 x7:Option Val} (hS:OkS r c) (og:OkG g r c) (G:GAt H l b s g) (hi:i < r) (hj:j < c) (bl:H.length <= le) (ex:Ext H K) (ge:K[le]?=some (.dict es)) (hes:Has es F) (lt:Lt (hgt g r c) D F) (hn:es.length < 5000)
    (q:∀ K' es' F' m' x7',Ext H K' -> K'[le]?=some (.dict es') -> Has es' F' -> Lt (hgt g r c) D F' -> es'.length+muG g r c F' <= es.length+muG g r c F -> ((F'=F /\ m'=m /\ M9 (hgt g r c) F ((i:Int),(j:Int))) \/ (m'=true /\ muG g r c F' < muG g r c F)) -> QS [some (.loc l),some x1,some (.loc le),x3,some (.bool m'),some (.int (i:Int)),some (.int (j:Int)),x7'] K') :
    wpSs T_09 (Ai T_09 (d+2)) zT3
      [some (.loc l),some x1,some (.loc le),x3,some (.bool m),some (.int (i:Int)),some (.int (j:Int)),x7] K QS R ES:=by
  obtain ⟨w,y,hw,hy,hcase⟩:=Fj og hi hj
  refine Au (fun v K'=>∃ ol,v=ov ol /\ Ext K K' /\ Lst F ((bes r c i j).filter (fun q=>(hgt g r c q).isSome)) ol) ?_ ?_
  · rw [A1,wcv (v:=.loc l) rfl,Ah,Dw,wcv (v:=.int (i:Int)) rfl,wcv (v:=.int (j:Int)) rfl,Ax,wcv (v:=.loc le) rfl]
    exact U6 (d:=d) hS og (G.ext ex) hi hj ge hes
  intro v K1 zz
  obtain ⟨ol,rfl,e1,L⟩:=zz
  have ex1:=ex.trans e1
  have G1:=G.ext ex1
  have ge1:=e1.get ge
  clear ge ex
  have same:M9 (hgt g r c) F ((i:Int),(j:Int)) -> ∀ x7',QS [some (.loc l),some x1,some (.loc le),x3,some (.bool m),some (.int (i:Int)),some (.int (j:Int)),x7'] K1:=fun cl x7'=>q K1 es F m x7' ex1 ge1 hes lt (zI _) (.inl ⟨rfl,rfl,cl⟩)
  rw [Ag,Bb,Ei,A2]
  refine Aig rfl rfl rfl G1 hw hy ?_
  rcases hcase with ⟨rfl,hn0⟩ | ⟨a,rfl,_,ha⟩
  · exact same (fun a ha=>by rw [hn0] at ha;cases ha) _
  · rw [Dc,Ca,Ad,Ce,A2,wvr (v:=ov ol) rfl,Dc]
    have hk:∀ q,q∈(bes r c i j).filter (fun q=>(hgt g r c q).isSome)↔(Adj ((i:Int),(j:Int)) q /\ hgt g r c q≠none):=fun q=>Lw
    cases ol with
    | none=>exact same (L.closed ha hk lt.high (fun l e=>nomatch e)) _
    | some l0 =>
      refine Au (fun v K'=>v=.int (mx a l0) /\ K1=K') ?_ ?_
      · rw [Dq,wcv (v:=.int l0) rfl]
        refine Aig rfl rfl rfl G1 hw hy ?_
        exact ⟨congrArg Val.int (Acg l0 a),rfl⟩
      rintro v K' ⟨rfl,rfl⟩
      have hes0:=hes ((i:Int),(j:Int))
      have cond:∃ t:Bool,(t=true -> ∀ f,F ((i:Int),(j:Int))=some f -> mx a l0 < f) /\ (t=false -> ∃ f,F ((i:Int),(j:Int))=some f /\ f <= mx a l0) /\
          wpE T_09 (Ai T_09 (d+2)) (.or (.cmp .notin (.tup (.cons (.var 5) (.cons (.var 6) .nil))) (.var 2)) (.cmp .lt (.var 7) (.sub (.var 2) (.tup (.cons (.var 5) (.cons (.var 6) .nil)))))) [some (.loc l),some x1,some (.loc le),x3,some (.bool m),some (.int (i:Int)),some (.int (j:Int)),some (.int (mx a l0))] K1 (fun v K'=>v=.bool t /\ K1=K') NoE:=by
        cases hf:F ((i:Int),(j:Int)) with
        | none =>
          rw [hf] at hes0
          refine ⟨true,(fun _ f h=>nomatch h),(fun h=>nomatch h),?_⟩
          rw [Eo,A2]
          refine Xw rfl rfl ?_
          rw [wvr (v:=.loc le) rfl,D3 ge1,hes0]
          exact ⟨rfl,rfl⟩
        | some f =>
          rw [hf] at hes0
          refine ⟨decide (mx a l0 < f),fun h f' h'=>?_,fun h=>⟨f,rfl,?_⟩,?_⟩
          · cases h';exact of_decide_eq_true h
          · have:=of_decide_eq_false h;exact Ae0 this
          · rw [Eo,A2]
            refine Xw rfl rfl ?_
            rw [wvr (v:=.loc le) rfl,D3 ge1,hes0,Ck,Ad]
            rw [show (!(Option.map Val.int (some f)).isSome)=false from rfl,C4,A2,wvr (v:=.int (mx a l0)) rfl,A9,wvr (v:=.loc le) rfl]
            refine Xw rfl rfl ?_
            rw [G7 ge1 hes0]
            exact ⟨rfl,rfl⟩
      obtain ⟨t,ht,hf,hc⟩:=cond
      refine A4 hc ?_
      clear hc
      rintro v K' ⟨rfl,rfl⟩
      refine B8 (fun h=>?_) (fun h=>?_)
      · have new:=ht h
        obtain ⟨q0,hq0,hl0⟩:=(L.one l0 rfl).1
        have adj:=((Lw (g:=g)).mp hq0).1
        have lt':=lt.put ha adj hl0 new
        have is:∃ q∈Gj r c,hgt g r c q=some (mx a l0):=by
          obtain ⟨q,hq⟩:=(lt'.snd _ _ (B6 F ((i:Int),(j:Int)) (mx a l0))).isH
          exact ⟨q,Cs.mpr (Gu hq),hq⟩
        have dec:=Aeu (Cs.mpr (J1 hi hj)) new is
        rw [Ag,Bk,wvr (v:=.int (mx a l0)) rfl,wvr (v:=.loc le) rfl]
        refine Xw rfl rfl ?_
        rw [Gd ge1 (by show _ < 16777216;exact Ans hn)]
        refine q _ _ _ true _ (ex1.set bl _) (Bo _ ge1) (hes.put _ _) lt' ?_ (.inr ⟨rfl,dec⟩)
        have:=Fe es ((i:Int),(j:Int)) (.int (mx a l0))
        show _+mu (hgt g r c) (Gj r c) (upd F ((i:Int),(j:Int)) (mx a l0)) <= _+mu (hgt g r c) (Gj r c) F
        exact Ant dec this
      · obtain ⟨f,h1,h2⟩:=hf h
        exact same (L.closed ha hk lt.high (fun l e=>by cases e;exact ⟨f,h1,h2⟩)) _
end
inductive TInv (H:Hp) (g:List (List Val)) (r c l le:Nat) (x1:Val) (x3:Option Val) (D:Key -> Prop) (F0:Key -> Option Int) (C:Nat) (P:Nat -> Nat -> Prop) (x5:Option Val):Env' -> Hp -> Prop
  | mk {K:Hp} (es:List (Key × Val)) (F:Key -> Option Int) (m:Bool) (x6 x7:Option Val) (ex:Ext H K) (ge:K[le]?=some (.dict es)) (hes:Has es F) (lt:Lt (hgt g r c) D F) (b1:es.length+muG g r c F <= C)
      (cl:(m=false /\ F=F0 /\ ∀ i j:Nat,P i j -> M9 (hgt g r c) F0 ((i:Int),(j:Int))) \/ (m=true /\ muG g r c F < muG g r c F0)) :
    TInv H g r c l le x1 x3 D F0 C P x5 [some (.loc l),some x1,some (.loc le),x3,some (.bool m),x5,x6,x7] K
section
variable {T:Tab} {Φ:Funs} {Γ:Env'} {H K:Hp} {Q:Val -> Hp -> Prop} {E:Nat -> Hp -> Prop} {d:Nat} {QS:Env' -> Hp -> Prop} {R:Val -> Hp -> Prop} {ES:Nat -> Env' -> Hp -> Prop} {l b s r c le:Nat} {g:List (List Val)} {F:Key -> Option Int} {es:List (Key × Val)} {D:Key -> Prop}
theorem TInv.imp {x1:Val} {x3 x5:Option Val} {F0:Key -> Option Int} {C:Nat} {P P':Nat -> Nat -> Prop} {Γ:Env'} (x:TInv H g r c l le x1 x3 D F0 C P x5 Γ K) (i:∀ i j,P' i j -> P i j):TInv H g r c l le x1 x3 D F0 C P' x5 Γ K:=by
  obtain ⟨es,F,m,x6,x7,ex,ge,hes,lt,b1,cl⟩:=x
  exact .mk es F m x6 x7 ex ge hes lt b1 (cl.imp (fun h=>⟨h.1,h.2.1,fun a b p=>h.2.2 a b (i a b p)⟩) id)
theorem Aev {w:List Val} {Γ:Env'} (h0:Γ[0]?=some (some (.loc l))) (hS:OkS r c) (og:OkG g r c) (G:GAt H l b s g):wpE T Φ (.bf .len (.cons (.sub (.var 0) (.int 0)) .nil)) Γ H (fun v H'=>v=.int (c:Int) /\ H'=H) NoE /\ wpE T Φ (.bf .len (.cons (.var 0) .nil)) Γ H (fun v H'=>v=.int (r:Int) /\ H'=H) NoE:=by
  have ll:=Gi og (b:=b) (s:=s) (l:=l)
  constructor
  · rw [Dq,Ah,A9,wvr h0,A8]
    show Wp (De (.loc l) (.int 0)) H (fun v H'=>Wp (bfV .len [v]) H' _ _) _
    rw [I6 hS og G];exact ⟨rfl,rfl⟩
  · rw [Dq,wcv h0,Ax,Ar G.top,ll];exact ⟨rfl,rfl⟩
set_option maxHeartbeats 1000000 in
theorem Aci {x1:Val} {x3 x5 x6 x7:Option Val} (hS:OkS r c) (og:OkG g r c) (G:GAt H l b s g) (bl:H.length <= le) (ex:Ext H K) (ge:K[le]?=some (.dict es)) (hes:Has es F) (lt:Lt (hgt g r c) D F) (hn:es.length+muG g r c F < 5000)
    (q:∀ K' es' F' m' x5 x6 x7,Ext H K' -> K'[le]?=some (.dict es') -> Has es' F' -> Lt (hgt g r c) D F' -> es'.length+muG g r c F' <= es.length+muG g r c F -> ((m'=false /\ F'=F /\ Lv (hgt g r c) D F) \/ (m'=true /\ muG g r c F' < muG g r c F)) -> QS [some (.loc l),some x1,some (.loc le),x3,some (.bool m'),x5,x6,x7] K') :
    wpS T_09 (Ai T_09 (d+2)) (.each 5 (.bf .range (.cons (.bf .len (.cons (.var 0) .nil)) .nil)) (.cons (.each 6 (.bf .range (.cons (.bf .len (.cons (.sub (.var 0) (.int 0)) .nil)) .nil)) zT3) .nil))
      [some (.loc l),some x1,some (.loc le),x3,some (.bool false),x5,x6,x7] K QS R ES:=by
  have hS':=hS
  unfold OkS at hS'
  obtain ⟨I,hI⟩:=Dr (fun (k:Nat) (Γ:Env') (K:Hp)=>∃ x5,TInv H g r c l le x1 x3 D F (es.length+muG g r c F) (fun i j=>i < k /\ j < c) x5 Γ K)
  refine Dk (n:=r) I (Aev (w:=[]) rfl hS og (G.ext ex)).2 ⟨by exact Ahk hS',by exact Ahl hS'⟩ ((hI _ _ _).mpr ⟨_,.mk es F false _ _ ex ge hes lt (zI _) (.inl ⟨rfl,rfl,fun i j h=>absurd h.1 (Nat.not_lt_zero _)⟩)⟩) ?_ ?_
  · intro i Γ K1 hi h
    obtain ⟨_,x⟩:=(hI _ _ _).mp h
    have hi':i < r:=by exact X9 hi
    obtain ⟨J,hJ⟩:=Dr (fun (k:Nat) (Γ:Env') (K:Hp)=>TInv H g r c l le x1 x3 D F (es.length+muG g r c F) (fun i' j'=>(i' < i /\ j' < c) \/ (i'=i /\ j' < k)) (some (.int (i:Int))) Γ K)
    obtain ⟨es1,F1,m1,x6,x7,ex1,ge1,hes1,lt1,b1,cl⟩:=x
    refine Dk (n:=c) J (Aev (w:=[]) rfl hS og (G.ext ex1)).1 ⟨by exact Ahy hS',by exact Ahz hS'⟩ ((hJ _ _ _).mpr (.mk es1 F1 m1 x6 x7 ex1 ge1 hes1 lt1 b1 (cl.imp (fun h=>⟨h.1,h.2.1,fun i' j' p=>h.2.2 i' j' (p.resolve_right fun w=>absurd w.2 (Nat.not_lt_zero _))⟩) id))) ?_ ?_
    · clear cl b1 lt1 hes1 ge1 ex1
      intro j Γ K2 hj h
      obtain ⟨es1,F1,m1,x6,x7,ex1,ge1,hes1,lt1,b1,cl⟩:=(hJ _ _ _).mp h
      have hj':j < c:=by exact X9 hj
      refine Ach hS og G hi' hj' bl ex1 ge1 hes1 lt1 (by exact Anu hn b1) fun K' es' F' m' x7' ex' ge' hes' lt' b' o=>(hJ _ _ _).mpr (.mk es' F' m' _ x7' ex' ge' hes' lt' (zC b' b1) ?_)
      rcases o with ⟨rfl,rfl,c1⟩ | ⟨rfl,dec⟩
      · refine cl.imp (fun h=>⟨h.1,h.2.1,fun i' j' p=>?_⟩) id
        rcases p with p | ⟨rfl,p⟩
        · exact h.2.2 i' j' (.inl p)
        · by_cases e:j'=j
          · refine Eq.symm e▸?_;rw [<- h.2.1];exact c1
          · exact h.2.2 i' j' (.inr ⟨rfl,by exact o45 p e⟩)
      · refine .inr ⟨rfl,?_⟩
        rcases cl with ⟨_,rfl,_⟩ | ⟨_,l2⟩
        · exact dec
        · exact Nat.lt_trans dec l2
    · intro Γ K2 h
      rw [Int.toNat_natCast] at h
      refine (hI _ _ _).mpr ⟨_,((hJ _ _ _).mp h).imp fun i' j' p=>?_⟩
      by_cases e:i'=i
      · exact .inr ⟨e,p.2⟩
      · exact .inl ⟨by exact Anv p e,p.2⟩
  · intro Γ K1 h
    rw [Int.toNat_natCast] at h
    obtain ⟨x5,es1,F1,m1,x6,x7,ex1,ge1,hes1,lt1,b1,cl⟩:=(hI _ _ _).mp h
    refine q K1 es1 F1 m1 x5 x6 x7 ex1 ge1 hes1 lt1 b1 (cl.imp (fun h=>⟨h.1,h.2.1,?_⟩) id)
    refine (h.2.1▸lt1:Lt (hgt g r c) D F).fin fun k a ha=>?_
    refine ex2 (Ea (Gu ha)) fun i j zz=>An zz fun zr2 hi hj=>?_;subst zr2
    exact h.2.2 i j ⟨hi,hj⟩
end
inductive VInv (H:Hp) (g:List (List Val)) (r c l le:Nat) (x1:Val) (D:Key -> Prop):Nat -> Env' -> Hp -> Prop
  | mk {n:Nat} {K:Hp} (es:List (Key × Val)) (F:Key -> Option Int) (m:Bool) (x3 x5 x6 x7:Option Val) (ex:Ext H K) (ge:K[le]?=some (.dict es)) (hes:Has es F) (lt:Lt (hgt g r c) D F) (b1:es.length+muG g r c F < 5000) (hn:n=if m=true then muG g r c F+1 else 0) (cl:m=false -> Lv (hgt g r c) D F) :
    VInv H g r c l le x1 D n [some (.loc l),some x1,some (.loc le),x3,some (.bool m),x5,x6,x7] K
inductive DInv (H:Hp) (g:List (List Val)) (r c l le:Nat) (x1:Val) (ds:List Val):Nat -> Env' -> Hp -> Prop
  | mk {n:Nat} {K:Hp} (es:List (Key × Val)) (F:Key -> Option Int) (x3:Option Val) (ex:Ext H K) (ge:K[le]?=some (.dict es)) (hes:Has es F) (b1:es.length <= n) (dr:∀ k,Aa k∈ds.take n -> F k=hgt g r c k) (only:∀ k f,F k=some f -> Aa k∈ds.take n) :
    DInv H g r c l le x1 ds n [some (.loc l),some x1,some (.loc le),x3,none,none,none,none] K
section
variable {T:Tab} {Φ:Funs} {Γ:Env'} {H K:Hp} {Q:Val -> Hp -> Prop} {E:Nat -> Hp -> Prop} {d:Nat} {QS:Env' -> Hp -> Prop} {R:Val -> Hp -> Prop} {ES:Nat -> Env' -> Hp -> Prop} {l b s r c le m:Nat} {g:List (List Val)} {F:Key -> Option Int} {es:List (Key × Val)} {D:Key -> Prop} {ds:List Val}
set_option maxHeartbeats 1000000 in
theorem Acj {x1:Val} {x3:Option Val} (hS:OkS r c) (og:OkG g r c) (G:GAt H l b s g) (bl:H.length <= le) (ex:Ext H K) (ge:K[le]?=some (.dict es)) (hes:Has es F) (lt:Lt (hgt g r c) D F) (hn:es.length+muG g r c F < 5000)
    (q:∀ K' es' F' x3 x4 x5 x6 x7,Ext H K' -> K'[le]?=some (.dict es') -> Has es' F' -> Lv (hgt g r c) D F' -> QS [some (.loc l),some x1,some (.loc le),x3,x4,x5,x6,x7] K') :
    wpS T_09 (Ai T_09 (d+2)) (.loop (.var 4) zT0)
      [some (.loc l),some x1,some (.loc le),x3,some (.bool true),none,none,none] K QS R ES:=by
  obtain ⟨I,hI⟩:=Dr (VInv H g r c l le x1 D)
  refine Hq I (n:=muG g r c F+1) (Nat.lt_trans (Nat.succ_lt_succ (zA (Nat.le_add_left _ _) hn)) (by decide)) ((hI _ _ _).mpr (.mk es F true x3 _ _ _ ex ge hes lt hn rfl (fun h=>nomatch h))) ?_
  clear ex ge hes lt hn
  intro n Γ K' h
  obtain ⟨es,F,m,x3,x5,x6,x7,ex,ge,hes,lt,b1,hn,cl⟩:=(hI _ _ _).mp h
  rw [wvr (v:=.bool m) rfl]
  refine B8 (fun e=>?_) fun e=>?_
  · subst e
    refine Au (fun v K=>v=.bool false /\ K'=K) ⟨rfl,rfl⟩ ?_
    rintro v K ⟨rfl,rfl⟩
    refine Aci hS og G bl ex ge hes lt b1 fun K2 es2 F2 m2 y5 y6 y7 ex2 ge2 hes2 lt2 b2 o=>?_
    rcases o with ⟨rfl,rfl,lv⟩ | ⟨rfl,dec⟩
    · exact ⟨0,by rw [hn];exact Nat.succ_pos _,(hI _ _ _).mpr (.mk es2 F2 false x3 y5 y6 y7 ex2 ge2 hes2 lt2 (by exact Anw b1 b2) rfl (fun _=>lv))⟩
    · exact ⟨muG g r c F2+1,by rw [hn];exact Nat.succ_lt_succ dec,(hI _ _ _).mpr (.mk es2 F2 true x3 y5 y6 y7 ex2 ge2 hes2 lt2 (by exact Anx b1 b2) rfl (fun h=>nomatch h))⟩
  · subst e
    exact q K' es F x3 _ x5 x6 x7 ex ge hes (cl rfl)
theorem Rb (hS:OkS r c) (og:OkG g r c) (G:GAt H l b s g) (rc:r * c <= 63) (hm:H[m]?=some (.list ds)) (hdl:ds.length <= 900) (hd:∀ v∈ds,∃ k a,v=Aa k /\ hgt g r c k=some a) :
    Wp (Ai T_09 (d+3) 18 [.loc l,.loc m]) H (fun v K=>∃ le es F,v=.loc le /\ H.length <= le /\ Ext H K /\ K[le]?=some (.dict es) /\ Has es F /\ Lv (hgt g r c) (fun k=>Aa k∈ds) F) NoE:=by
  rw [As (g:=Y4) rfl rfl]
  refine Au (fun v K=>v=.loc H.length /\ K=H++[.dict []]) ⟨rfl,rfl⟩ ?_
  rintro v K ⟨rfl,e⟩
  rw [e]
  clear e K
  obtain ⟨I,hI⟩:=Dr (DInv H g r c l H.length (.loc m) ds)
  refine D9 (I ds.length) ?_ ?_
  · refine Gc I (l:=m) (xs:=ds) ⟨rfl,rfl⟩ (Ext.get ⟨_,rfl⟩ hm) ((hI _ _ _).mpr (.mk [] (fun _=>none) none ⟨_,rfl⟩ (Al H _) (fun _=>rfl) (zI _) (fun k h=>by rw [List.take_zero] at h;cases h) (fun k f h=>nomatch h))) ?_ ?_ (fun Γ K h=>h)
    · intro n Γ K h
      refine Af fun G kG=>?_
      obtain ⟨es,F,x3,ex,_⟩:=(hI _ _ _).mp h
      refine kG ?_
      exact ex.get hm
    · intro n z Γ K hz h
      obtain ⟨es,F,x3,ex,ge,hes,b1,dr,only⟩:=(hI _ _ _).mp h
      have ln:=(List.getElem?_eq_some_iff.mp hz).1
      refine ex2 (hd z (zF hz)) fun k a zz=>Ac zz fun zr2 ha=>?_;subst zr2
      refine ex2 (Ea (Gu ha)) fun i j zz=>An zz fun zr2 hi hj=>?_;subst zr2
      refine ex2 (Fj og hi hj) fun w y zz=>An zz fun hw hy hcase=>?_
      rcases hcase with ⟨_,hn⟩ | ⟨a',rfl,_,ha'⟩
      · rw [hn] at ha;cases ha
      have ea:a'=a:=by rw [ha] at ha';exact (Option.some.inj ha').symm
      subst ea
      rw [Ag,Bk]
      show Wp (De (.loc l) (.int (i:Int))) K (fun v H'=>Wp (De v (.int (j:Int))) H' _ _) _
      rw [Ab8 (G.ext ex) hw hy]
      show Wp (A3 (.loc H.length) (.tup [.int (i:Int),.int (j:Int)]) (.int a')) K _ _
      rw [Gd ge (by show _ < 16777216;exact Any ln hdl b1),B1]
      refine (hI _ _ _).mpr (.mk _ _ _ (ex.set (zI _) _) (Bo _ ge) (hes.put _ _) (zC (Fe _ _ _) (Nat.succ_le_succ b1)) (fun k hk=>?_) fun k f hf=>?_)
      · by_cases e:k=((i:Int),(j:Int))
        · rw [e,B6,ha]
        · rw [Dy _ _ e]
          rw [Ez hz] at hk
          rcases List.mem_append.mp hk with hk | hk
          · exact dr k hk
          · exact absurd (E0 (List.mem_singleton.mp hk)) e
      · rw [Ez hz]
        by_cases e:k=((i:Int),(j:Int))
        · exact List.mem_append.mpr (.inr (List.mem_singleton.mpr (congrArg Aa e)))
        · rw [Dy _ _ e] at hf
          exact List.mem_append.mpr (.inl (only k f hf))
  · intro Γ K h
    obtain ⟨es,F,x3,ex,ge,hes,b1,dr,only⟩:=(hI _ _ _).mp h
    rw [List.take_length] at dr only
    have lt:Lt (hgt g r c) (fun k=>Aa k∈ds) F:=⟨fun k f hf=>.drain (only k f hf) ((dr k (only k f hf)).symm.trans hf),fun k hk=>dr k hk⟩
    have mb:=Agq (hgt g r c) (Gj r c) F
    rw [Ff] at mb
    have m2:r * c * (r * c+1) <= 63 * (63+1):=Nat.mul_le_mul rc (Nat.add_le_add_right rc 1)
    refine Au (fun v K'=>v=.bool true /\ K=K') ⟨rfl,rfl⟩ ?_
    rintro v K' ⟨rfl,rfl⟩
    refine D9 (QS:=_) _ (Acj hS og G (zI _) ex ge hes lt (by show es.length+mu (hgt g r c) (Gj r c) F < 5000;exact Anz m2 hdl b1 mb) fun K2 es2 F2 y3 y4 y5 y6 y7 ex2 ge2 hes2 lv=>?_) (fun Γ K h=>h)
    exact ⟨H.length,es2,F2,rfl,zI _,ex2,ge2,hes2,lv⟩
end
section
variable {T:Tab} {Φ:Funs} {Γ:Env'} {H K:Hp} {Q:Val -> Hp -> Prop} {E:Nat -> Hp -> Prop} {d:Nat} {QS:Env' -> Hp -> Prop} {R:Val -> Hp -> Prop} {ES:Nat -> Env' -> Hp -> Prop} {o l b s r c lg ls m:Nat} {g:List (List Val)} {F:Key -> Option Int} {es0:List (Key × Val)} {D:List Val} {v:Val}
theorem U8:Ai T_09 (d+1) 19 [.exc 3] H=.ok (.str "cell") H:=by kernel_rfl
theorem Rd {ld:Nat} {ks:List Key} {k:Key} (h:H[ld]?=some (.list (ks.map Aa))):Dl .notin (Aa k) (.loc ld) H=some (!decide (k∈ks)):=by
  show Yb true (inV (Aa k) (.loc ld) H)=_
  rw [show inV (Aa k) (.loc ld) H=some (decide (k∈ks)) from Acf h];rfl
end
theorem I7:∀ ds:List PyData,(∀ d∈ds,PyData.eqv d d=true) -> PyData.eqvAll ds ds=true
  | [],_=>rfl
  | d :: ds,h=>by
    show (PyData.eqv d d && PyData.eqvAll ds ds)=true
    rw [h d (.head _),I7 ds fun x hx=>h x (.tail _ hx)];rfl
noncomputable def vd:Val -> PyData
  | .int i=>.int i
  | _=>.none
noncomputable def NV (v:Val):Prop:=v=.none \/ ∃ n,v=.int n
theorem Ack {v:Val} (h:NV v):PyData.eqv (vd v) (vd v)=true:=by
  rcases h with rfl | ⟨n,rfl⟩
  · rfl
  · show (n == n)=true;simp
section
variable {T:Tab} {Φ:Funs} {Γ:Env'} {H K:Hp} {Q:Val -> Hp -> Prop} {E:Nat -> Hp -> Prop} {d:Nat} {QS:Env' -> Hp -> Prop} {R:Val -> Hp -> Prop} {ES:Nat -> Env' -> Hp -> Prop} {l b s r c:Nat} {g:List (List Val)}
theorem Acl {n:Nat} {v:Val} (h:NV v):A5 H n v=some (vd v):=by
  rcases h with rfl | ⟨i,rfl⟩
  · exact Tz n
  · exact Xc n i
theorem Na {n l:Nat} {xs:List Val} (h:H[l]?=some (.list xs)):A5 H (n+1) (.loc l)=(I1 (A5 H n) xs).map .list:=by
  have:A5 H (n+1) (.loc l)=(match H[l]? with | some (.list xs)=>(I1 (A5 H n) xs).map .list | _=>none):=rfl
  rw [this,h]
theorem Xx {n l:Nat} {w:List Val} (h:H[l]?=some (.list w)) (hw:∀ v∈w,NV v):A5 H (n+1) (.loc l)=some (.list (w.map vd)):=by
  rw [Na h]
  have:=Lu (f:=A5 H n) (v:=fun x=>x) (gd:=vd) w (fun v hv=>Acl (hw v hv))
  rw [List.map_id'] at this
  rw [this];rfl
theorem Nb (G:GAt H l b s g) (hg:∀ w∈g,∀ v∈w,NV v):A5 H Fi (.loc l)=some (.list (g.map fun w=>.list (w.map vd))):=by
  show A5 H (5+1) (.loc l)=_
  rw [Na G.top]
  have e:(List.range g.length).map (fun i=>PyData.list (((g[i]?).getD []).map vd))=g.map fun w=>.list (w.map vd):=by
    refine List.ext_getElem? fun i=>?_
    rw [List.getElem?_map,List.getElem?_map]
    by_cases q:i < g.length
    · rw [List.getElem?_range q]
      show some (PyData.list (((g[i]?).getD []).map vd))=_
      rw [List.getElem?_eq_getElem q];rfl
    · rw [List.getElem?_eq_none (by rw [List.length_range];exact Zj q),List.getElem?_eq_none (by exact Zj q)];rfl
  rw [Lu (gd:=fun i=>PyData.list (((g[i]?).getD []).map vd)) (List.range g.length) (fun i hi=>?_),e]
  · rfl
  · have q:=List.mem_range.mp hi
    have hw:g[i]?=some g[i]:=List.getElem?_eq_getElem q
    rw [Xx (n:=4) (G.row i _ hw) (hg _ (List.getElem_mem q)),hw];rfl
theorem Xy {l' b' s':Nat} (G:GAt H l b s g) (G':GAt H l' b' s' g) (hg:∀ w∈g,∀ v∈w,NV v):G9 H (.loc l) (.loc l')=some true:=by
  unfold G9
  rw [Nb G hg,Nb G' hg]
  show some (PyData.eqvAll _ _)=_
  rw [I7]
  intro x hx
  refine ex1 (List.mem_map.mp hx) fun w zz=>Ac zz fun hw zr2=>?_;subst zr2
  refine I7 _ fun y hy=>?_
  refine ex1 (List.mem_map.mp hy) fun v zz=>Ac zz fun hv zr2=>?_;subst zr2
  exact Ack (hg w hw v hv)
theorem OkG.nv (og:OkG g r c):∀ w∈g,∀ v∈w,NV v:=fun w hw v hv=>by
  obtain ⟨i,hi⟩:=List.mem_iff_getElem?.mp hw
  rcases (og.row i w hi).2 v hv with h | ⟨n,h,_⟩
  · exact .inl h
  · exact .inr ⟨n,h⟩
theorem Xz {a a':Nat} {ks:List Key} (ha:H[a]?=some (.list (ks.map Aa))) (hb:H[a']?=some (.list (ks.map Aa))):G9 H (.loc a) (.loc a')=some true:=by
  refine Xo (ds:=ks.map fun q=>PyData.tuple [.int q.1,.int q.2]) ha hb (Lu ks fun k _=>rfl) ?_
  refine I7 _ fun x hx=>?_
  refine ex1 (List.mem_map.mp hx) fun k zz=>Ac zz fun _ hr0=>?_;refine hr0▸?_
  show (k.1 == k.1 && (k.2 == k.2 && true))=true
  simp
theorem Re {es:List (Key × Val)} {pd:Key -> Bool} (h:∀ k,inD es (Aa k)=true↔k∈(Gj r c).filter pd):(cells r c).filter (inD es)=((Gj r c).filter pd).map Aa:=by
  rw [<- Ij,List.filter_map]
  congr 1
  refine List.filter_congr fun k hk=>?_
  rw [Bool.eq_iff_iff]
  show inD es (Aa k)=true↔_
  rw [h k,List.mem_filter]
  exact ⟨fun x=>x.2,fun x=>⟨hk,x⟩⟩
end
theorem U9 {k:Key} {ks:List Key}:Aa k∈ks.map Aa↔k∈ks:=by
  constructor
  · intro h
    refine ex1 (List.mem_map.mp h) fun q zz=>Ac zz fun hq e=>?_
    rw [<- E0 e];exact hq
  · exact fun h=>List.mem_map.mpr ⟨k,h,rfl⟩
structure Lk (H:Hp) (r c:Nat) (g:List (List Val)) (ks:List Key) (l m o:Nat):Prop where
  s:OkS r c
  n:r * c <= 63
  og:OkG g r c
  G:GAt H l (l+2) 2 g
  m:H[m]?=some (.list (ks.map Aa))
  L:∃ lg b' ls es,LandAt H o r c lg b' 1 ls g es /\ (cells r c).filter (inD es)=ks.map Aa
  d:∀ k∈ks,∃ a,hgt g r c k=some a
theorem Kn.ext {H H':Hp} {v:Val} (x:Kn H v) (e:Ext H H'):Kn H' v:=by
  cases v with
  | loc l=>obtain ⟨xs,h⟩:=x;exact ⟨xs,e.get h⟩
  | _=>exact x
section
variable {T:Tab} {Φ:Funs} {Γ:Env'} {H K:Hp} {Q:Val -> Hp -> Prop} {E:Nat -> Hp -> Prop} {d:Nat} {QS:Env' -> Hp -> Prop} {R:Val -> Hp -> Prop} {ES:Nat -> Env' -> Hp -> Prop} {l r c m o:Nat} {g:List (List Val)} {ks:List Key} {v:Val}
theorem Lk.ext {H':Hp} (x:Lk H r c g ks l m o) (e:Ext H H'):Lk H' r c g ks l m o:=by
  refine Af fun G kG=>?_
  refine ex4 x.L fun lg b' ls es zz=>Ac zz fun L q=>?_
  refine kG ?_
  exact ⟨x.s,x.n,x.og,x.G.ext e,e.get x.m,⟨lg,b',ls,es,L.ext e,q⟩,x.d⟩
theorem Nc {i l:Nat} {it:ME} {body:MSs} {xs:List Val} {K0:Hp} (I:Nat -> Env' -> Hp -> Prop) (hit:wpE T Φ it Γ H (fun v H'=>v=.loc l /\ H'=K0) NoE) (hl:K0[l]?=some (.list xs)) (h0:I 0 Γ K0) (hx:∀ k Γ K,I k Γ K -> K[l]?=some (.list xs))
    (hs:∀ k x Γ K,xs[k]?=some x -> I k Γ K -> wpSs T Φ body (Γ.set i (some x)) K (I (k+1)) R ES) (hd:∀ Γ K,I xs.length Γ K -> QS Γ K):wpS T Φ (.each i it body) Γ H QS R ES:=by
  refine C5 (A4 hit ?_)
  rintro v H' ⟨rfl,e⟩
  rw [e,Bj (Bx hl)]
  exact B9 I h0 hd (fun k Γ K _ h=>B4 (hx k Γ K h)) fun k x Γ K hx h=>⟨_,rfl,hs k x Γ K hx h⟩
end
noncomputable def kt (a b:Key):Bool:=decide (a.1 < b.1) || (decide (a.1=b.1) && decide (a.2 < b.2))
theorem Kx {a b:Key}:kt a b=true↔(a.1 < b.1 \/ (a.1=b.1 /\ a.2 < b.2)):=by
  unfold kt
  rw [Bool.or_eq_true,Bool.and_eq_true,decide_eq_true_iff,decide_eq_true_iff,decide_eq_true_iff]
theorem Acm {a b:Key} (h:¬ (a.1 < b.1 \/ (a.1=b.1 /\ a.2 < b.2))):kt a b=false:=Bool.eq_false_iff.mpr fun q=>h (Kx.mp q)
theorem X0 {a b:Key} (h:kt a b=false):¬ (a.1 < b.1 \/ (a.1=b.1 /\ a.2 < b.2)):=fun q=>by rw [Kx.mpr q] at h;exact nomatch h
theorem Va (a b:Key):Ja Fi (Aa a) (Aa b)=some (kt a b):=by
  have e:Ja Fi (Aa a) (Aa b)=(match G9 [] (.int a.1) (.int b.1) with
    | some true=>(match G9 [] (.int a.2) (.int b.2) with
      | some true=>some false
      | some false=>some (decide (a.2 < b.2))
      | none=>none)
    | some false=>some (decide (a.1 < b.1))
    | none=>none):=rfl
  have pe:∀ x y:Int,G9 [] (.int x) (.int y)=some (decide (x=y)):=fun x y=>rfl
  rw [e,pe,pe]
  unfold kt
  by_cases h1:a.1=b.1
  · rw [decide_eq_true h1,decide_eq_false (show ¬ a.1 < b.1 by exact Ah0 h1)]
    by_cases h2:a.2=b.2
    · rw [decide_eq_true h2,decide_eq_false (show ¬ a.2 < b.2 by exact Ah0 h2)];rfl
    · rw [decide_eq_false h2];rfl
  · rw [decide_eq_false h1]
    show some (decide (a.1 < b.1))=some (decide (a.1 < b.1) || false)
    rw [Bool.or_false]
noncomputable def ltV (a b:Val):Bool:=match Er a,Er b with
  | some x,some y=>kt x y
  | _,_=>false
theorem Ep {ks:List Key} {C:Val -> Prop} (h:∀ k,C (Aa k)):∀ x∈ks.map Aa,C x:=fun x hx=>by refine ex1 (List.mem_map.mp hx) fun k zz=>Ac zz fun _ e=>?_;exact e▸h k
theorem Rf (ks:List Key):Order (ks.map Aa) ltV :=
  ⟨Ep fun a=>Ep fun b=>Va a b,
   Ep fun a=>Ep fun b h=>Acm (a:=b) (b:=a) (by have h:=Kx.mp (show kt a b=true from h);exact Ah1 h),
   Ep fun a=>Ep fun b=>Ep fun c h1 h2=>Acm (a:=c) (b:=a) (by have n1:=X0 (a:=b) (b:=a) h1;have n2:=X0 (a:=c) (b:=b) h2;exact An0 n1 n2),
   Ep fun a=>Ep fun b h1 h2=>by
    have n1:=X0 (a:=a) (b:=b) h1
    have n2:=X0 (a:=b) (b:=a) h2
    rw [show a=b from Prod.ext (by exact An1 n1 n2) (by exact An2 n1 n2)]⟩
theorem Acn (r c:Nat):(Gj r c).Pairwise fun a b=>kt a b=true:=by
  induction r with
  | zero=>exact .nil
  | succ r ih =>
    rw [M6,List.pairwise_append]
    refine ⟨ih,?_,fun a ha b hb=>?_⟩
    · unfold Eb
      rw [List.pairwise_map]
      exact List.pairwise_lt_range.imp fun {i j} h=>Kx (a:=((r:Int),((i:Nat):Int))) (b:=((r:Int),((j:Nat):Int))) |>.mpr (.inr ⟨rfl,Int.ofNat_lt.mpr h⟩)
    · have ha:=of_decide_eq_true (Cs.mp ha)
      refine ex1 (List.mem_map.mp hb) fun j zz=>Ac zz fun _ hr0=>?_;refine hr0▸?_
      exact Kx.mpr (.inl ha.2.1)
open Classical in
noncomputable def Il (r c:Nat) (P:Key -> Prop):List Key:=(Gj r c).filter fun k=>decide (P k)
open Classical in
theorem Nd {r c:Nat} {ks:List Key} {P:Key -> Prop} (nd:ks.Nodup) (hP:∀ k,k∈ks↔P k) (inr:∀ k∈ks,inR r c k=true) (h:r * c <= 63):Fp (ks.map Aa)=some ((Il r c P).map Aa):=by
  have pm:(Il r c P).Perm ks:=by
    unfold Il
    rw [List.perm_ext_iff_of_nodup ((Kw r c).sublist (List.filter_sublist)) nd]
    intro k
    rw [List.mem_filter,decide_eq_true_iff,hP]
    exact ⟨fun h=>h.2,fun h=>⟨Cs.mpr (inr k ((hP k).mpr h)),h⟩⟩
  have hl:ks.length <= 63:=by
    rw [<- pm.length_eq]
    refine zC (List.length_filter_le _ _) ?_
    rw [Ff];exact h
  refine L5 ⟨by rw [List.length_map];exact An3 hl,Ep fun k=>⟨_,_,rfl⟩,ltV,Rf ks⟩ ⟨pm.map Aa,?_⟩
  rw [List.pairwise_map]
  refine ((Acn r c).sublist List.filter_sublist).imp fun {a b} h=>?_
  rw [Va]
  have:=Kx.mp h
  rw [Acm (a:=b) (b:=a) (by exact Ah1 this)]
theorem Nf {H:Hp} {Q:Val -> Hp -> Prop} {E:Nat -> Hp -> Prop} {l:Nat} {xs ys:List Val} (h:Dm l H=some xs) (e:Fp xs=some ys) (q:Q (.loc H.length) (H++[.list ys])):Wp (bfV .sorted [.loc l]) H Q E:=by
  refine Wp.of_eq ?_ q
  show (match (Dm l H).bind Fp with
    | some ys=>M.alloc (.list ys) H
    | none=>.bad)=_
  rw [h]
  show (match Fp xs with
    | some ys=>M.alloc (.list ys) H
    | none=>.bad)=_
  rw [e];rfl
theorem X1 {H:Hp} {l:Nat} {xs:List Val} (h:H[l]?=some (.list xs)):Dm l H=some xs:=by delta Dm;rw [h]
theorem X2 {H:Hp} {l:Nat} {es:List (Key × Val)} (h:H[l]?=some (.dict es)):Dm l H=some (es.map fun p=>Aa p.1):=by delta Dm;rw [h]
inductive Rch (ok:Key -> Prop) (k0:Key):Key -> Prop
  | start:Rch ok k0 k0
  | step {p q:Key}:Rch ok k0 p -> Adj p q -> ok q -> Rch ok k0 q
structure Df (ok:Key -> Prop) (k0:Key) (S:List Key) (C:Key -> Prop) (O:Key -> Key -> Prop):Prop where
  nd:S.Nodup
  rch:∀ q∈S,Rch ok k0 q
  here:k0∈S
  cl:∀ p q,C p -> Adj p q -> ok q -> q∈S \/ O p q
section
variable {ok:Key -> Prop} {k0 p q:Key} {S:List Key} {C C':Key -> Prop} {O O':Key -> Key -> Prop}
theorem Df.start:Df ok k0 [k0] (fun _=>False) O:=⟨List.nodup_cons.mpr ⟨List.not_mem_nil,.nil⟩,fun q h=>List.mem_singleton.mp h▸.start,.head _,fun _ _ h=>h.elim⟩
theorem Df.imp (x:Df ok k0 S C O) (h:∀ p q,C' p -> Adj p q -> ok q -> (C p /\ (O p q -> O' p q)) \/ O' p q):Df ok k0 S C' O' :=
  ⟨x.nd,x.rch,x.here,fun p q hp a o=>(h p q hp a o).elim (fun z=>(x.cl p q z.1 a o).imp id z.2) .inr⟩
theorem Df.push (x:Df ok k0 S C O) (hp:p∈S) (a:Adj p q) (o:ok q) (n:¬ q∈S) (h:∀ p' q',O p' q' -> O' p' q' \/ q'=q):Df ok k0 (S++[q]) C O':=by
  refine ⟨?_,fun z hz=>?_,List.mem_append_left _ x.here,fun p' q' hp' a' o'=>?_⟩
  · rw [List.nodup_append]
    refine ⟨x.nd,List.nodup_cons.mpr ⟨List.not_mem_nil,.nil⟩,fun z hz w hw e=>?_⟩
    rw [List.mem_singleton.mp hw] at e
    exact n (e▸hz)
  · rcases List.mem_append.mp hz with h | h
    · exact x.rch z h
    · exact List.mem_singleton.mp h▸.step (x.rch p hp) a o
  · rcases x.cl p' q' hp' a' o' with h' | h'
    · exact .inl (List.mem_append_left _ h')
    · rcases h p' q' h' with h' | h'
      · exact .inr h'
      · exact .inl (h'▸List.mem_append_right _ (.head _))
theorem Df.fin (x:Df ok k0 S C (fun _ _=>False)) (h:∀ p∈S,C p) (k:Key):k∈S↔Rch ok k0 k:=by
  refine ⟨x.rch k,fun w=>?_⟩
  induction w with
  | start=>exact x.here
  | step _ a o ih=>exact (x.cl _ _ (h _ ih) a o).resolve_right id
end
noncomputable def lev (F:Key -> Option Int) (k:Key):Int:=(F k).getD 1000000001
noncomputable def okH (h F:Key -> Option Int) (k q:Key):Prop:=∃ b,h q=some b /\ b < lev F k
open Classical in
noncomputable def Ri (h F:Key -> Option Int) (r c:Nat) (k:Key):List Key:=match h k with
  | none=>[]
  | some a=>if lev F k <= a then [] else Il r c (Rch (okH h F k) k)
theorem Rch.inr {g:List (List Val)} {r c:Nat} {F:Key -> Option Int} {k q:Key} (hk:inR r c k=true) (x:Rch (okH (hgt g r c) F k) k q):inR r c q=true:=by
  cases x with
  | start=>exact hk
  | step _ _ o=>refine ex1 o fun b zz=>Ac zz fun hb _=>?_;exact Gu hb
theorem Ng {h F:Key -> Option Int} {r c:Nat} {k:Key} (e:h k=none):Ri h F r c k=[]:=by unfold Ri;rw [e]
theorem Nh {h F:Key -> Option Int} {r c:Nat} {k:Key} {a:Int} (e:h k=some a) (l:lev F k <= a):Ri h F r c k=[]:=by unfold Ri;rw [e];exact if_pos l
theorem P3 {h F:Key -> Option Int} {r c:Nat} {k:Key} {a:Int} (e:h k=some a) (l:¬ lev F k <= a):Ri h F r c k=Il r c (Rch (okH h F k) k):=by unfold Ri;rw [e];exact if_neg l
theorem P4:∀ (es:List (Key × Val)) (k:Key) (v:Val),Ec es k=none -> Gk es k v=es++[(k,v)]
  | [],_,_,_=>rfl
  | (a,b) :: es,k,v,h=>by
    have st:Gk ((a,b) :: es) k v=if a=k then (a,v) :: es else (a,b) :: Gk es k v:=rfl
    have n:¬ a=k:=fun e=>by unfold Ec at h;rw [List.lookup_cons,e,beq_self_eq_true] at h;exact nomatch h
    rw [st,if_neg n,P4 es k v]
    · rfl
    · unfold Ec at h ⊢
      rw [List.lookup_cons,beq_eq_false_iff_ne.mpr (fun e:k=a=>n e.symm)] at h
      exact h
theorem Ly:∀ (es:List (Key × Val)) (k:Key),(Ec es k).isSome=true↔k∈es.map Prod.fst
  | [],_=>⟨fun h=>(nomatch h),fun h=>nomatch h⟩
  | (a,b) :: es,k=>by
    unfold Ec
    rw [List.lookup_cons,List.map_cons,List.mem_cons]
    by_cases e:k=a
    · rw [e,beq_self_eq_true];exact ⟨fun _=>.inl rfl,fun _=>rfl⟩
    · rw [beq_eq_false_iff_ne.mpr e]
      exact (Ly es k).trans ⟨.inr,fun h=>h.resolve_left e⟩
section
variable {H K:Hp} {d:Nat} {o r c lg b s ls:Nat} {g:List (List Val)} {es0:List (Key × Val)} {F:Key -> Option Int} {Q:Val -> Hp -> Prop} {E:Nat -> Hp -> Prop} {QS:Env' -> Hp -> Prop} {R:Val -> Hp -> Prop} {k0:Key}
structure HS (H K:Hp) (sd rl:Nat) (es:List (Key × Val)) (st:List Key):Prop where
  ext:Ext H K
  b1:H.length <= sd
  b2:H.length <= rl
  d:K[sd]?=some (.dict es)
  l:K[rl]?=some (.list (st.map Aa))
theorem HS.ext' {K':Hp} {sd rl:Nat} {es:List (Key × Val)} {st:List Key} (x:HS H K sd rl es st) (e:Ext K K'):HS H K' sd rl es st:=⟨x.ext.trans e,x.b1,x.b2,e.get x.d,e.get x.l⟩
theorem HS.pop {sd rl:Nat} {es:List (Key × Val)} {st:List Key} (x:HS H K sd rl es st) (st':List Key):HS H (K.set rl (.list (st'.map Aa))) sd rl es st':=⟨x.ext.set x.b2 _,x.b1,x.b2,Ay _ (fun e=>by have:=x.l;rw [e,x.d] at this;exact nomatch this) x.d,Bo _ x.l⟩
theorem HS.put {sd rl:Nat} {es:List (Key × Val)} {st:List Key} (x:HS H K sd rl es st) (es':List (Key × Val)):HS H (K.set sd (.dict es')) sd rl es' st:=⟨x.ext.set x.b1 _,x.b1,x.b2,Bo _ x.d,Ay _ (fun e=>by have:=x.l;rw [<- e,x.d] at this;exact nomatch this) x.l⟩
theorem Aew {sd rl i j:Nat} {es:List (Key × Val)} {st:List Key} {x5 x7:Option Val} {L:Int} (og:OkG g r c) (LA:LandAt H o r c lg b s ls g es0) (x:HS H K sd rl es st) (hi:i < r) (hj:j < c) (n1:es.length < 1000) (n2:st.length < 1000)
    (yes:∀ a y,hgt g r c ((i:Int),(j:Int))=some a -> a < L -> ¬ ((i:Int),(j:Int))∈es.map Prod.fst -> ∀ K',HS H K' sd rl (es++[(((i:Int),(j:Int)),y)]) (st++[((i:Int),(j:Int))]) -> (∀ m ob,m≠sd -> m≠rl -> K[m]?=some ob -> K'[m]?=some ob) -> QS [some (.loc o),some (Aa k0),some (.int L),some (.loc sd),some (.loc rl),x5,some (Aa ((i:Int),(j:Int))),some (.int a)] K')
    (no:∀ v,(((i:Int),(j:Int))∈es.map Prod.fst \/ ¬ ∃ a,hgt g r c ((i:Int),(j:Int))=some a /\ a < L) -> QS [some (.loc o),some (Aa k0),some (.int L),some (.loc sd),some (.loc rl),x5,some (Aa ((i:Int),(j:Int))),some v] K) :
    wpSs T_09 (Ai T_09 (d+5)) zT8
      [some (.loc o),some (Aa k0),some (.int L),some (.loc sd),some (.loc rl),x5,some (Aa ((i:Int),(j:Int))),x7] K QS R NoX:=by
  have hlid:lid=16777216:=rfl
  refine Af fun G kG=>?_
  refine ex1 ((LA.ext x.ext).inst) fun fs zz=>Ac zz fun f0 _=>?_
  refine ex2 (Fj og hi hj) fun w y zz=>An zz fun hw hy hcase=>?_
  refine kG ?_
  rw [Ag,Bu,B0,wvr (v:=.loc o) rfl,Ej f0 (show T_09.meth 7 2=some 25 from rfl),wcv (v:=Aa ((i:Int),(j:Int))) rfl]
  refine (P0 (d:=d+1) hi hj (LA.ext x.ext) hw hy).then ?_
  rintro v K' ⟨rfl,rfl⟩
  rw [Ag,Bb,Ei,A2,wvr (v:=Aa ((i:Int),(j:Int))) rfl,wvr (v:=.loc sd) rfl,Bj (show Dl .notin (Aa ((i:Int),(j:Int))) (.loc sd) K'=_ from D3 x.d),Ad,E8]
  refine B8 (fun m=>?_) fun m=>?_
  · skip
    exact no v (.inl ((Ly es _).mp m))
  have nm:¬ ((i:Int),(j:Int))∈es.map Prod.fst:=fun h=>by rw [(Ly es _).mpr h] at m;exact nomatch m
  rw [Ei,A2,wvr (v:=v) rfl,Dc]
  rcases hcase with ⟨rfl,hn⟩ | ⟨a,rfl,_,ha⟩
  · skip
    exact no _ (.inr fun ⟨a,e,_⟩=>by rw [hn] at e;exact nomatch e)
  rw [Ca,Ad,Ce,A2,wvr (v:=.int a) rfl,wvr (v:=.int L) rfl,J7,Ad]
  by_cases l:a < L
  · rw [Cd l,Ag,Bk,F5,wvr (v:=.loc sd) rfl,wvr (v:=Aa ((i:Int),(j:Int))) rfl]
    show Wp (A3 (.loc sd) (.tup [.int (i:Int),.int (j:Int)]) (.bool true)) K' _ _
    rw [Gd x.d (by exact Acz n1 hlid),P4 es _ _ (by cases e:Ec es ((i:Int),(j:Int)) with | none=>rfl | some z=>rw [e] at m;exact nomatch m)]
    have x1:=x.put (es++[(((i:Int),(j:Int)),.bool true)])
    refine Cw rfl x1.l ?_
    rw [wvr (v:=Aa ((i:Int),(j:Int))) rfl]
    refine ⟨_,x1.l,by rw [List.length_map];exact Acz n2 hlid,yes a (.bool true) ha l nm _ ?_ ?_⟩
    · rw [show st.map Aa++[Aa ((i:Int),(j:Int))]=(st++[((i:Int),(j:Int))]).map Aa by rw [List.map_append];rfl]
      exact x1.pop _
    · exact fun m ob h1 h2 hm=>Ay _ (fun e=>h2 e.symm) (Ay _ (fun e=>h1 e.symm) hm)
  · rw [Bn l]
    exact no _ (.inr fun ⟨a',e,l'⟩=>by rw [ha] at e;cases e;exact l l')
end
section
variable {H K:Hp} {d:Nat} {o r c lg b s ls:Nat} {g:List (List Val)} {es0:List (Key × Val)} {F:Key -> Option Int} {Q:Val -> Hp -> Prop} {E:Nat -> Hp -> Prop} {QS:Env' -> Hp -> Prop} {R:Val -> Hp -> Prop} {k0:Key}
noncomputable def okL (h:Key -> Option Int) (L:Int) (q:Key):Prop:=∃ a,h q=some a /\ a < L
inductive HInv (H:Hp) (o sd rl r c:Nat) (L:Int) (ok:Key -> Prop) (k0:Key) (n:Nat) (O:Key -> Key -> Prop) (X:Hp -> Prop) (S0:List Key) (x5:Option Val):Env' -> Hp -> Prop
  | mk {K:Hp} (es:List (Key × Val)) (st:List Key) (x6 x7:Option Val):HS H K sd rl es st -> Df ok k0 (es.map Prod.fst) (fun p=>p∈es.map Prod.fst /\ ¬ p∈st) O -> (∀ q∈st,q∈es.map Prod.fst) -> (∀ q∈es.map Prod.fst,inR r c q=true) -> n+es.length=r * c+st.length -> X K -> (∀ q∈S0,q∈es.map Prod.fst) ->
      HInv H o sd rl r c L ok k0 n O X S0 x5 [some (.loc o),some (Aa k0),some (.int L),some (.loc sd),some (.loc rl),x5,x6,x7] K
theorem Aco {sd rl i j n:Nat} {es:List (Key × Val)} {st:List Key} {x6 x7:Option Val} {L:Int} (og:OkG g r c) (hrc:r * c <= 63) (LA:LandAt H o r c lg b s ls g es0) (x:HS H K sd rl es st) (hp:((i:Int),(j:Int))∈es.map Prod.fst)
    (df:Df (okL (hgt g r c) L) k0 (es.map Prod.fst) (fun p=>p∈es.map Prod.fst /\ ¬ p∈st) (fun p _=>p=((i:Int),(j:Int)))) (sub:∀ q∈st,q∈es.map Prod.fst) (inr:∀ q∈es.map Prod.fst,inR r c q=true) (m0:n+es.length=r * c+st.length) (nr:n <= 63)
    (q:∀ Γ K,HInv H o sd rl r c L (okL (hgt g r c) L) k0 n (fun _ _=>False) (fun _=>True) [] (some (Aa ((i:Int),(j:Int)))) Γ K -> QS Γ K) :
    wpS T_09 (Ai T_09 (d+5)) (.each 6 (.call 2 (.cons (.attr (.var 0) 0) (.cons (.attr (.var 0) 1) (.cons (.var 5) .nil)))) zT8)
      [some (.loc o),some (Aa k0),some (.int L),some (.loc sd),some (.loc rl),some (Aa ((i:Int),(j:Int))),x6,x7] K QS R NoX:=by
  refine Af fun G kG=>?_
  refine ex1 ((LA.ext x.ext).inst) fun fs zz=>Cm zz fun f0 f1 f2 _=>?_
  refine kG ?_
  refine C5 ?_
  rw [A1,Ah,wat rfl f0 f1,Ah,wat rfl f0 f2]
  refine (Ku (d:=d+2)).then ?_
  intro v K1 zz
  refine ex1 zz fun m zz=>Cm zz fun zr1 bm e1 hm=>?_;subst zr1
  rw [Bj (Bx hm)]
  have ld:=Bw x.d
  have ll:=Bw x.l
  obtain ⟨I,hI⟩:=Dr (fun (k:Nat)=>HInv H o sd rl r c L (okL (hgt g r c) L) k0 n (fun p q=>p=((i:Int),(j:Int)) /\ ¬ q∈(bes r c i j).take k) (fun K=>K[m]?=some (.list ((bes r c i j).map Aa))) (es.map Prod.fst) (some (Aa ((i:Int),(j:Int)))))
  have nl:es.length <= r * c:=by rw [<- List.length_map (f:=Prod.fst)];exact Hu df.nd fun q hq=>Cs.mpr (inr q hq)
  refine B9 I ((hI _ _ _).mpr (.mk es st _ _ (x.ext' e1) (df.imp fun p q hp a o=>?_) sub inr m0 hm fun q h=>h)) ?_ ?_ ?_
  · exact .inl ⟨hp,fun e=>⟨e,fun h=>by rw [List.take_zero] at h;exact nomatch h⟩⟩
  · intro Γ K2 h
    refine Af fun G kG=>?_
    obtain ⟨es2,st2,z6,z7,x2,df2,sub2,inr2,m2,hm2,_⟩:=(hI _ _ _).mp h
    refine kG ?_
    refine q _ _ (.mk es2 st2 z6 z7 x2 (df2.imp fun p q hp a o=>.inl ⟨hp,fun ⟨e,hn⟩=>?_⟩) sub2 inr2 m2 trivial (fun q h=>nomatch h))
    rw [List.length_map,List.take_length] at hn
    refine ex1 o fun a' zz=>Ac zz fun ha _=>?_
    rw [e] at a
    exact hn (Ii.mpr ⟨a,Gu ha⟩)
  · intro k Γ K2 _ h
    obtain ⟨es2,st2,z6,z7,x2,df2,sub2,inr2,m2,hm2,_⟩:=(hI _ _ _).mp h
    exact B4 hm2
  · intro k v Γ K2 hv h
    obtain ⟨es2,st2,z6,z7,x2,df2,sub2,inr2,m2,hm2,s2⟩:=(hI _ _ _).mp h
    refine ex1 (G8 hv) fun z zz=>Ac zz fun hz hr1=>?_;refine Eq.symm hr1▸?_
    obtain ⟨az,iz⟩:=Ii.mp (zF hz)
    refine ex2 (Ea iz) fun i' j' zz=>An zz fun zr2 hi' hj'=>?_;subst zr2
    have nl2:es2.length <= r * c:=by rw [<- List.length_map (f:=Prod.fst)];exact Hu df2.nd fun q hq=>Cs.mpr (inr2 q hq)
    refine ⟨_,rfl,?_⟩
    refine Aew (d:=d) og LA x2 hi' hj' (by exact An4 m0 m2 hrc nl2) (by exact An5 m0 m2 hrc nr nl2) ?_ ?_
    · intro a y ha hl nm K3 x3 kp
      have em:(es2++[(((i':Int),(j':Int)),y)]).map Prod.fst=es2.map Prod.fst++[((i':Int),(j':Int))]:=by rw [List.map_append];rfl
      refine (hI _ _ _).mpr (.mk _ _ _ _ x3 ?_ (fun q hq=>?_) (fun q hq=>?_) (by rw [List.length_append,List.length_append];show _+(_+1)=_+(_+1);exact An6 m0 m2) (kp _ _ (by exact Ah2 ld bm) (by exact Ah2 ll bm) hm2) fun q h=>by rw [em];exact List.mem_append_left _ (s2 q h))
      · rw [em]
        refine (df2.push (O':=fun p q=>p=((i:Int),(j:Int)) /\ ¬ q∈(bes r c i j).take (k+1)) (s2 _ hp) az ⟨a,ha,hl⟩ nm fun p' q' ⟨e,hn⟩=>?_).imp fun p' q' hp' a' o'=>.inl ⟨?_,id⟩
        · by_cases e2:q'=((i':Int),(j':Int))
          · exact .inr e2
          · exact .inl ⟨e,fun h=>((Bg hz).mp h).elim hn e2⟩
        · have ne:¬ p'=((i':Int),(j':Int)):=fun e=>hp'.2 (e▸List.mem_append_right _ (.head _))
          exact ⟨(List.mem_append.mp hp'.1).elim id fun h=>absurd (List.mem_singleton.mp h) ne,fun h=>hp'.2 (List.mem_append_left _ h)⟩
      · rw [em]
        exact (List.mem_append.mp hq).elim (fun h=>List.mem_append_left _ (sub2 q h)) fun h=>List.mem_append_right _ h
      · rw [em] at hq
        rcases List.mem_append.mp hq with h | h
        · exact inr2 q h
        · rw [List.mem_singleton.mp h];exact iz
    · intro v hno
      refine (hI _ _ _).mpr (.mk es2 st2 _ _ x2 ⟨df2.nd,df2.rch,df2.here,fun p' q' hp' a' o'=>?_⟩ sub2 inr2 m2 hm2 s2)
      rcases df2.cl p' q' hp' a' o' with h | ⟨e,hn⟩
      · exact .inl h
      · by_cases e2:q'=((i':Int),(j':Int))
        · rw [e2] at o' ⊢
          rcases hno with h | h
          · exact .inl h
          · exact absurd o' h
        · exact .inr ⟨e,fun h=>((Bg hz).mp h).elim hn e2⟩
theorem Acp {sd rl n:Nat} {es:List (Key × Val)} {st:List Key} {x5 x6 x7:Option Val} {L:Int} (og:OkG g r c) (hrc:r * c <= 63) (LA:LandAt H o r c lg b s ls g es0)
    (x0:HInv H o sd rl r c L (okL (hgt g r c) L) k0 n (fun _ _=>False) (fun _=>True) [] x5 [some (.loc o),some (Aa k0),some (.int L),some (.loc sd),some (.loc rl),x5,x6,x7] K) (nr:n <= 63)
    (q:∀ K es a e f,HS H K sd rl es [] -> (es.map Prod.fst).Nodup -> (∀ k,k∈es.map Prod.fst↔Rch (okL (hgt g r c) L) k0 k) -> QS [some (.loc o),some (Aa k0),some (.int L),some (.loc sd),some (.loc rl),a,e,f] K) :
    wpS T_09 (Ai T_09 (d+5)) (.loop (.cmp .gt (.bf .len (.cons (.var 4) .nil)) (.int 0)) zT7)
      [some (.loc o),some (Aa k0),some (.int L),some (.loc sd),some (.loc rl),x5,x6,x7] K QS R NoX:=by
  obtain ⟨I,hI⟩:=Dr (fun (n:Nat) (Γ:Env') (K:Hp)=>n <= 63 /\ ∃ x5,HInv H o sd rl r c L (okL (hgt g r c) L) k0 n (fun _ _=>False) (fun _=>True) [] x5 Γ K)
  refine Hq I (n:=n) (zA nr (by unfold Nl;decide)) ((hI _ _ _).mpr ⟨nr,_,x0⟩) ?_
  intro n Γ K h
  obtain ⟨nr,x5,es,st,z6,z7,x,df,sub,inr,m0,_,_⟩:=(hI _ _ _).mp h
  rw [A2,wbf (v:=.loc rl) rfl,Ar x.l,A8,Q5,Ad,List.length_map]
  have nl:es.length <= r * c:=by rw [<- List.length_map (f:=Prod.fst)];exact Hu df.nd fun q hq=>Cs.mpr (inr q hq)
  by_cases c0:(0:Int) < (st.length:Int)
  · rw [Cd c0]
    have ne:st≠[]:=fun e=>by rw [e] at c0;exact absurd c0 (by decide)
    have es1:st=st.dropLast++[st.getLast ne]:=(List.dropLast_concat_getLast ne).symm
    have mp:st.getLast ne∈es.map Prod.fst:=sub _ (List.getLast_mem ne)
    refine Af fun G kG=>?_
    refine ex2 (Ea (inr _ mp)) fun i j zz=>An zz fun e hi hj=>?_
    refine kG ?_
    rw [e] at es1 mp
    rw [Ag,Bu,Q3,wvr (v:=.loc rl) rfl,Bj (Pq x.l)]
    refine Yx x.l (v:=Aa ((i:Int),(j:Int))) (by rw [es1,List.map_append];exact List.getLast?_concat) ?_
    have dl:(st.map Aa).dropLast=st.dropLast.map Aa:=(List.map_dropLast).symm
    rw [dl]
    have ln:st.dropLast.length+1=st.length:=by rw [List.length_dropLast];exact An7 c0
    refine Aco (n:=n - 1) og hrc LA (x.pop _) mp (df.imp fun p q hp a o=>?_) (fun q hq=>sub q ((List.dropLast_sublist st).subset hq)) inr (by exact An8 c0 ln m0 nr nl) (by exact Ah3 c0 ln m0 nr nl) fun Γ K h=>?_
    · by_cases e2:p=((i:Int),(j:Int))
      · exact .inr e2
      · refine .inl ⟨⟨hp.1,fun h=>?_⟩,fun h=>h.elim⟩
        rw [es1] at h
        exact (List.mem_append.mp h).elim hp.2 fun h=>e2 (List.mem_singleton.mp h)
    · exact ⟨n - 1,by exact An9 c0 ln m0 nr nl,(hI _ _ _).mpr ⟨by exact Ah3 c0 ln m0 nr nl,_,h⟩⟩
  · rw [Bn c0]
    have e:st=[]:=List.eq_nil_of_length_eq_zero (by exact Aoa c0)
    subst e
    exact q K es _ _ _ x df.nd (df.fin fun p hp=>⟨hp,fun h=>nomatch h⟩)
end
section
variable {H K:Hp} {d:Nat} {o r c lg b s ls:Nat} {g:List (List Val)} {es0:List (Key × Val)} {F:Key -> Option Int} {Q:Val -> Hp -> Prop} {E:Nat -> Hp -> Prop} {QS:Env' -> Hp -> Prop} {R:Val -> Hp -> Prop} {k0:Key}
theorem Acq {l:Nat} {es:List (Key × Val)} {i j:Int} {dv:Val} (h:H[l]?=some (.dict es)):Wp (bmV .get2 (.loc l) [.tup [.int i,.int j],dv]) H Q E=Q ((Ec es (i,j)).getD dv) H:=by
  have:bmV .get2 (.loc l) [.tup [.int i,.int j],dv] H=.ok ((Ec es (i,j)).getD dv) H:=by
    unfold bmV;simp only [h];rfl
  unfold Wp;rw [this]
theorem Vb {l:Nat} {es:List (Key × Val)} (h:H[l]?=some (.dict es)):Go .get2 (.loc l) H=some ():=if_pos (Rs h)
theorem Vc {i j:Nat} {w:List Val} {x:Val} {Γ:Env'} {n:Nat} (LA:LandAt H o r c lg b s ls g es0) (h0:Γ[0]?=some (some (.loc o))) (hn:Γ[n]?=some (some (Aa ((i:Int),(j:Int))))) (hi:i < r) (hj:j < c) (hw:g[i]?=some w) (hx:w[j]?=some x) (q:Q x H) :
    wpE T_09 (Ai T_09 (d+5)) (.umeth (.var 0) 2 (.cons (.var n) .nil)) Γ H Q E:=by
  refine ex1 LA.inst fun fs zz=>Ac zz fun f0 _=>?_
  rw [B0,wvr h0,Ej f0 (show T_09.meth 7 2=some 25 from rfl),wcv hn]
  refine (P0 (d:=d+1) hi hj LA hw hx).then ?_
  rintro v K' ⟨rfl,rfl⟩
  exact q
theorem X3 {i j:Nat} (og:OkG g r c) (hr:r <= 30) (hc:c <= 30) (hrc:r * c <= 63) (LA:LandAt H o r c lg b s ls g es0) (hd:∀ k,Aa k∈(cells r c).filter (inD es0) -> ∃ a,hgt g r c k=some a) (lv:Lv (hgt g r c) (fun k=>Aa k∈(cells r c).filter (inD es0)) F) (hi:i < r) (hj:j < c) :
    Wp (Ai T_09 (d+6) 7 [.loc o,Aa ((i:Int),(j:Int))]) H (fun v K=>∃ m,v=.loc m /\ H.length <= m /\ Ext H K /\ K[m]?=some (.list ((Ri (hgt g r c) F r c ((i:Int),(j:Int))).map Aa))) NoE:=by
  refine Af fun G kG=>?_
  refine ex1 LA.inst fun fs zz=>Cm zz fun f0 f1 f2 _=>?_
  refine ex2 (Fj og hi hj) fun w y zz=>An zz fun hw hy hcase=>?_
  refine kG ?_
  rw [As (g:=T8) rfl rfl]
  unfold T8
  show wpSs T_09 (Ai T_09 (d+5)) (.cons _ _) [some (.loc o),some (Aa ((i:Int),(j:Int))),none,none,none,none,none,none] H _ _ _
  rw [Ag,Bb,C8,A1,Ah,wat rfl f0 f1,Ah,wat rfl f0 f2]
  show Wp (Ai T_09 (d+5) 1 [.int (r:Int),.int (c:Int),.tup [.int (i:Int),.int (j:Int)]]) H _ _
  rw [Pw (d:=d+3) (by exact Ni) (by exact Vg hi) (by exact Ni) (by exact Vg hj)]
  refine Vc LA rfl rfl hi hj hw hy ?_
  rw [Dc]
  rcases hcase with ⟨rfl,hn⟩ | ⟨a,rfl,_,ha⟩
  · skip
    exact ⟨H.length,rfl,zI _,⟨_,rfl⟩,by rw [Ng hn];exact Al H _⟩
  refine (U0 og hr hc (by exact Aob hrc) LA hd).then ?_
  intro u K zz
  refine ex5 zz fun lf lo es gs F' zz=>Lz zz fun zr5 ex gl _ hes lv'=>?_;subst zr5
  have eF:F'=F:=funext fun k=>lv'.uniq lv k
  rw [eF] at hes
  rw [A8,Fb,Bj (Vb gl),wcv (v:=Aa ((i:Int),(j:Int))) rfl,Ah,Cf,wp_glob,Un,Ck,A8]
  show Wp (bmV .get2 (.loc lf) [.tup [.int (i:Int),.int (j:Int)],.int 1000000001]) K _ _
  have eL:(Ec es ((i:Int),(j:Int))).getD (.int 1000000001)=.int (lev F ((i:Int),(j:Int))):=by
    rw [hes];unfold lev
    cases F ((i:Int),(j:Int)) <;> rfl
  rw [Acq gl,eL]
  generalize hL:lev F ((i:Int),(j:Int))=L
  have LK:=LA.ext ex
  rw [Ag,Bb,A2]
  refine Vc LK rfl rfl hi hj hw hy ?_
  rw [wvr (v:=.int L) rfl,T4,Ad]
  by_cases c0:L <= a
  · rw [Cd c0]
    exact ⟨K.length,rfl,ex.len,ex.new _,by rw [Nh ha (by rw [hL];exact c0)];exact Al K _⟩
  rw [Bn c0,B1,Ag,Bu,H8]
  rw [Ag,Bk,F5]
  show Wp (A3 (.loc K.length) (.tup [.int (i:Int),.int (j:Int)]) (.bool true)) _ _ _
  rw [Gd (Al K _) (by decide),Lq,Ag,Bu,E9,wcv (v:=Aa ((i:Int),(j:Int))) rfl,Ax]
  have l1:(K++[HObj.dict (Gk [] ((i:Int),(j:Int)) (.bool true))]).length=K.length+1:=by rw [List.length_append];rfl
  rw [l1]
  show wpSs T_09 (Ai T_09 (d+5)) (.cons _ _) [some (.loc o),some (Aa ((i:Int),(j:Int))),some (.int L),some (.loc K.length),some (.loc (K.length+1)),none,none,none] (K++[.dict [(((i:Int),(j:Int)),.bool true)]]++[.list ([((i:Int),(j:Int))].map Aa)]) _ _ _
  have hs:HS K (K++[.dict [(((i:Int),(j:Int)),.bool true)]]++[.list ([((i:Int),(j:Int))].map Aa)]) K.length (K.length+1) [(((i:Int),(j:Int)),.bool true)] [((i:Int),(j:Int))]:=by
    refine ⟨(Ext.new (Ext.refl K) _).new _,zI _,by exact Ahw,Ext.get ⟨_,rfl⟩ (Al K _),?_⟩
    have:=Al (K++[HObj.dict [(((i:Int),(j:Int)),.bool true)]]) (.list ([((i:Int),(j:Int))].map Aa))
    rw [List.length_append] at this
    exact this
  have inr:inR r c ((i:Int),(j:Int))=true:=J1 hi hj
  refine Acp (n:=r * c) (es:=[]) (st:=[]) og hrc LK (.mk _ _ _ _ hs ((Df.start (O:=fun _ _=>False)).imp fun p q hp a o=>?_) (fun q hq=>hq) (fun q hq=>by rw [List.mem_singleton.mp hq];exact inr) (by rfl) trivial (fun q h=>nomatch h)) hrc fun K3 es3 x5 x6 x7 hs3 nd hR=>?_
  · exact absurd hp.1 hp.2
  have em:(es3.map fun p=>Aa p.1)=(es3.map Prod.fst).map Aa:=by rw [List.map_map];rfl
  refine Nf (X2 hs3.d) (by rw [em];exact Nd nd hR (fun k hk=>Rch.inr (F:=F) inr (by have:=(hR k).mp hk;rw [<- hL] at this;exact this)) hrc) ?_
  refine ⟨K3.length,rfl,zC ex.len hs3.ext.len,(ex.trans hs3.ext).new _,?_⟩
  rw [Al,P3 ha (by rw [hL];exact c0),<- hL]
  rfl
theorem Rg {v:Val} (LA:LandAt H o r c lg b s ls g es0) (kn:Kn H v) (np:J8 r c v=none):Wp (Ai T_09 (d+6) 7 [.loc o,v]) H (fun _ _=>False) (fun e K=>e=3 /\ H=K):=by
  refine ex1 LA.inst fun fs zz=>Cm zz fun f0 f1 f2 _=>?_
  rw [As (g:=T8) rfl rfl]
  unfold T8
  rw [Ag,Bb,C8,A1,Ah,wat rfl f0 f1,Ah,wat rfl f0 f2]
  refine (U5 (d:=d+3) kn).then ?_
  rintro w K ⟨rfl,rfl⟩
  rw [np]
  exact ⟨rfl,rfl,rfl⟩
end
section
variable {T:Tab} {Φ:Funs} {H K:Hp} {d:Nat} {l b s r c le:Nat} {g:List (List Val)} {es:List (Key × Val)} {F:Key -> Option Int} {Q:Val -> Hp -> Prop} {E:Nat -> Hp -> Prop} {QS:Env' -> Hp -> Prop} {R:Val -> Hp -> Prop} {k0:Key}
theorem Zh (og:OkG g r c) {k:Key} {a:Int} (h:hgt g r c k=some a):a <= 1000000000:=by
  refine ex2 (Ea (Gu h)) fun i j zz=>An zz fun zr2 hi hj=>?_;subst zr2
  refine ex2 (Fj og hi hj) fun w x zz=>An zz fun hw hx hcase=>?_
  rcases hcase with ⟨_,e⟩ | ⟨n,rfl,_,e⟩
  · rw [e] at h;cases h
  · rw [e] at h
    cases h
    rcases (og.row i w hw).2 _ (zF hx) with q | ⟨m,q,_,z⟩
    · exact nomatch q
    · cases q;exact z
theorem Vd {i j n:Nat} {w:List Val} {x:Val} {Γ:Env'} (h0:Γ[0]?=some (some (.loc l))) (hn:Γ[n]?=some (some (Aa ((i:Int),(j:Int))))) (G:GAt H l b s g) (hw:g[i]?=some w) (hx:w[j]?=some x) (q:Q x H):wpE T Φ (.sub (.sub (.var 0) (.sub (.var n) (.int 0))) (.sub (.var n) (.int 1))) Γ H Q E:=by
  rw [A9,A9,wvr h0,A9,wvr hn]
  show Wp (De (.loc l) (.int (i:Int))) H _ _
  rw [Dx G.top (G.item (List.getElem?_eq_some_iff.mp hw).1),A9,wvr hn]
  show Wp (De (.loc (b+s * i)) (.int (j:Int))) H _ _
  rw [Dx (G.row i w hw) hx]
  exact q
theorem Acr {i j:Nat} {a:Int} {x0 x3 x4 x5 x7:Option Val} {w:List Val} (og:OkG g r c) (h0:x0=some (.loc l)) (G:GAt H l b s g) (ge:H[le]?=some (.dict es)) (hes:Has es F) (hw:g[i]?=some w) (hx:w[j]?=some (.int a)) (ha:hgt g r c ((i:Int),(j:Int))=some a) (q:Q (.bool (decide (a < lev F k0))) H) :
    wpE T Φ (.or (.cmp .notin (.var 2) (.var 1)) (.cmp .lt (.sub (.sub (.var 0) (.sub (.var 6) (.int 0))) (.sub (.var 6) (.int 1))) (.sub (.var 1) (.var 2)))) [x0,some (.loc le),some (Aa k0),x3,x4,x5,some (Aa ((i:Int),(j:Int))),x7] H Q E:=by
  rw [Eo,A2,wvr (v:=Aa k0) rfl,wvr (v:=.loc le) rfl,Bj (show Dl .notin (Aa k0) (.loc le) H=_ from D3 ge),Ad,Lx (k:=k0) hes]
  cases hf:F k0 with
  | none =>
    have:=Zh og ha
    have e:lev F k0=1000000001:=by unfold lev;rw [hf];rfl
    rw [e,decide_eq_true (by exact Aoc this)] at q
    exact q
  | some f =>
    have e:lev F k0=f:=by unfold lev;rw [hf];rfl
    rw [e] at q
    refine Vd (by rw [h0];rfl) rfl G hw hx ?_
    rw [A9,wvr (v:=.loc le) rfl,wvr (v:=Aa k0) rfl]
    show Wp (De (.loc le) (.tup [.int k0.1,.int k0.2])) H _ _
    rw [G7 ge (show Ec es (k0.1,k0.2)=some (.int f) by rw [hes];rw [hf];rfl),J7]
    exact q
inductive BInv (H:Hp) (l le fl r c:Nat) (ok:Key -> Prop) (k0:Key) (C:List Key -> Key -> Prop) (O:Key -> Key -> Prop) (X:List Key -> Hp -> Prop) (x3 x5:Option Val):Env' -> Hp -> Prop
  | mk {K:Hp} (ks:List Key) (x6 x7:Option Val):Ext H K -> K[fl]?=some (.list (ks.map Aa)) -> Df ok k0 ks (C ks) O -> (∀ q∈ks,inR r c q=true) -> X ks K ->
      BInv H l le fl r c ok k0 C O X x3 x5 [some (.loc l),some (.loc le),some (Aa k0),x3,some (.loc fl),x5,x6,x7] K
theorem X4 {tl:Nat} {ob:HObj} {fl i j:Nat} {ks:List Key} {k:Nat} {x3 x6 x7:Option Val} (hS:OkS r c) (og:OkG g r c) (hrc:r * c <= 63) (G:GAt H l b s g) (ge:H[le]?=some (.dict es)) (hes:Has es F) (ex:Ext H K) (bl:H.length <= fl) (hl:K[fl]?=some (.list (ks.map Aa))) (ht:K[tl]?=some ob) (hne:tl≠fl) (hk:ks[k]?=some ((i:Int),(j:Int))) (hi:i < r) (hj:j < c)
    (df:Df (okH (hgt g r c) F k0) k0 ks (fun p=>p∈ks.take k) (fun _ _=>False)) (inr:∀ q∈ks,inR r c q=true) (q:∀ Γ K,BInv H l le fl r c (okH (hgt g r c) F k0) k0 (fun ks p=>p∈ks.take (k+1)) (fun _ _=>False) (fun _ K=>K[tl]?=some ob) x3 (some (.int (k:Int))) Γ K -> QS Γ K) :
    wpS T_09 (Ai T_09 (d+1)) (.each 6 (.call 16 (.cons (.var 0) (.cons (.sub (.var 4) (.var 5)) .nil))) (.cons (.assign 7 (.or (.cmp .notin (.var 2) (.var 1)) (.cmp .lt (.sub (.sub (.var 0) (.sub (.var 6) (.int 0))) (.sub (.var 6) (.int 1))) (.sub (.var 1) (.var 2))))) (.cons (.ite (.and (.cmp .notin (.var 6) (.var 4)) (.var 7)) (.cons (.expr (.bm (.var 4) .append (.cons (.var 6) .nil))) .nil) .nil) .nil)))
      [some (.loc l),some (.loc le),some (Aa k0),x3,some (.loc fl),some (.int (k:Int)),x6,x7] K QS R NoX:=by
  have hlid:lid=16777216:=rfl
  have hkl:=(List.getElem?_eq_some_iff.mp hk).1
  refine C5 ?_
  rw [A1,wcv (v:=.loc l) rfl,Ah,wsv (v:=.loc fl) (w:=.int (k:Int)) rfl rfl,Dx hl (show (ks.map Aa)[k]?=some (Aa ((i:Int),(j:Int))) by rw [List.getElem?_map,hk];rfl),Ax]
  refine (J3 (d:=d) hS og (G.ext ex) hi hj).then ?_
  intro v K1 zz
  obtain ⟨m,rfl,bm,e1,hm⟩:=zz
  rw [Bj (Bx hm)]
  have hmem:∀ q,q∈(bes r c i j).filter (fun q=>(hgt g r c q).isSome)↔(Adj ((i:Int),(j:Int)) q /\ hgt g r c q≠none):=fun q=>Lw
  generalize (bes r c i j).filter (fun q=>(hgt g r c q).isSome)=bs at hm hmem
  have lf:=Bw hl
  obtain ⟨I,hI⟩:=Dr (fun (n:Nat)=>BInv H l le fl r c (okH (hgt g r c) F k0) k0 (fun ks p=>p∈ks.take (k+1)) (fun p q=>p=((i:Int),(j:Int)) /\ ¬ q∈bs.take n) (fun ks K=>K[m]?=some (.list (bs.map Aa)) /\ ks[k]?=some ((i:Int),(j:Int)) /\ K[tl]?=some ob) x3 (some (.int (k:Int))))
  refine B9 I ((hI _ _ _).mpr (.mk ks _ _ (ex.trans e1) (e1.get hl) (df.imp fun p q hp a o=>?_) inr ⟨hm,hk,e1.get ht⟩)) ?_ ?_ ?_
  · rcases (Bg hk).mp hp with h | h
    · exact .inl ⟨h,fun h=>h.elim⟩
    · exact .inr ⟨h,fun h=>by rw [List.take_zero] at h;exact nomatch h⟩
  · intro Γ K2 h
    refine Af fun G kG=>?_
    obtain ⟨ks2,z6,z7,ex2,hl2,df2,inr2,_,_,ht2⟩:=(hI _ _ _).mp h
    refine kG ?_
    refine q _ _ (.mk ks2 z6 z7 ex2 hl2 (df2.imp fun p q hp a o=>.inl ⟨hp,fun ⟨e,hn⟩=>?_⟩) inr2 ht2)
    rw [List.length_map,List.take_length] at hn
    obtain ⟨a',ha,_⟩:=o
    rw [e] at a
    exact hn ((hmem q).mpr ⟨a,fun w=>by rw [w] at ha;exact nomatch ha⟩)
  · intro n Γ K2 _ h
    obtain ⟨ks2,z6,z7,ex2,hl2,df2,inr2,hm2,_⟩:=(hI _ _ _).mp h
    exact B4 hm2
  · intro n v Γ K2 hv h
    obtain ⟨ks2,z6,z7,ex2,hl2,df2,inr2,hm2,hk2,ht2⟩:=(hI _ _ _).mp h
    obtain ⟨z,hz,rfl⟩:=G8 hv
    obtain ⟨az,iz⟩:=(hmem z).mp (zF hz)
    obtain ⟨a,ha⟩:∃ a,hgt g r c z=some a:=by cases e:hgt g r c z with
      | none=>exact absurd e iz
      | some a=>exact ⟨a,rfl⟩
    have inz:=Gu ha
    obtain ⟨i',j',rfl,hi',hj'⟩:=Ea inz
    obtain ⟨w,y,hw,hy,hcase⟩:=Fj og hi' hj'
    rcases hcase with ⟨_,hn⟩ | ⟨a',rfl,_,ha'⟩
    · rw [hn] at ha;exact nomatch ha
    have ea:a'=a:=by rw [ha] at ha';exact (Option.some.inj ha').symm
    subst ea
    have kl2:ks2.length <= r * c:=Hu df2.nd fun q hq=>Cs.mpr (inr2 q hq)
    refine ⟨_,rfl,?_⟩
    rw [Ag,Bu]
    refine Acr og rfl (G.ext ex2) (ex2.get ge) hes hw hy ha ?_
    show wpSs T_09 (Ai T_09 (d+1)) _ [some (.loc l),some (.loc le),some (Aa k0),x3,some (.loc fl),some (.int (k:Int)),some (Aa ((i':Int),(j':Int))),some (.bool (decide (a' < lev F k0)))] K2 _ _ _
    have stay:(((i':Int),(j':Int))∈ks2 \/ ¬ a' < lev F k0) -> I (n+1) [some (.loc l),some (.loc le),some (Aa k0),x3,some (.loc fl),some (.int (k:Int)),some (Aa ((i':Int),(j':Int))),some (.bool (decide (a' < lev F k0)))] K2:=fun hno=>by
      refine (hI _ _ _).mpr (.mk ks2 _ _ ex2 hl2 ⟨df2.nd,df2.rch,df2.here,fun p' q' hp' a2 o'=>?_⟩ inr2 ⟨hm2,hk2,ht2⟩)
      rcases df2.cl p' q' hp' a2 o' with h | ⟨e,hn⟩
      · exact .inl h
      · by_cases e2:q'=((i':Int),(j':Int))
        · rw [e2] at o' ⊢
          rcases hno with h | h
          · exact .inl h
          · obtain ⟨a3,h3,l3⟩:=o'
            rw [ha] at h3
            cases h3
            exact absurd l3 h
        · exact .inr ⟨e,fun h=>((Bg hz).mp h).elim hn e2⟩
    rw [Ag,Bb,Ei,A2,wvr (v:=Aa ((i':Int),(j':Int))) rfl,wvr (v:=.loc fl) rfl,Bj (Rd hl2),Ad,E8]
    refine B8 (fun m1=>?_) fun m1=>?_
    · skip
      exact stay (.inl (of_decide_eq_true m1))
    have nm:¬ ((i':Int),(j':Int))∈ks2:=of_decide_eq_false m1
    rw [wvr (v:=.bool (decide (a' < lev F k0))) rfl,Ad]
    by_cases lo:a' < lev F k0
    · rw [Cd lo]
      refine Cw rfl hl2 ?_
      rw [wvr (v:=Aa ((i':Int),(j':Int))) rfl]
      refine ⟨_,hl2,by rw [List.length_map];exact Aod hlid hrc kl2,(hI _ _ _).mpr (.mk (ks2++[((i':Int),(j':Int))]) _ _ (ex2.set bl _) (by rw [Bo _ hl2,List.map_append];rfl) ?_ (fun q hq=>?_) ⟨Ay _ (by exact Ahq lf bm) hm2,by rw [List.getElem?_append_left (List.getElem?_eq_some_iff.mp hk2).1];exact hk2,Ay _ (fun e=>hne e.symm) ht2⟩)⟩
      · have kl:=(List.getElem?_eq_some_iff.mp hk2).1
        rw [List.take_append_of_le_length (by exact Ahs kl)]
        refine df2.push (zF hk2) az ⟨a',ha,lo⟩ nm fun p' q' ⟨e,hn⟩=>?_
        by_cases e2:q'=((i':Int),(j':Int))
        · exact .inr e2
        · exact .inl ⟨e,fun h=>((Bg hz).mp h).elim hn e2⟩
      · rcases List.mem_append.mp hq with h | h
        · exact inr2 q h
        · rw [List.mem_singleton.mp h];exact inz
    · rw [Bn lo]
      exact stay (.inr lo)
end
section
variable {T:Tab} {Φ:Funs} {H K:Hp} {d:Nat} {l b s r c le:Nat} {g:List (List Val)} {es:List (Key × Val)} {F:Key -> Option Int} {Q:Val -> Hp -> Prop} {E:Nat -> Hp -> Prop} {QS:Env' -> Hp -> Prop} {R:Val -> Hp -> Prop} {k0:Key}
theorem X5 {n:Int} (h:n <= 100000):Wp (bfV .list [.rng n]) H Q E=Q (.loc H.length) (H++[.list (L3 n)]):=by
  have:bfV .list [.rng n] H=M.alloc (.list (L3 n)) H:=if_pos h
  unfold Wp;rw [this];rfl
theorem Acs {Γ:Env'} (h0:Γ[0]?=some (some (.loc l))) (hS:OkS r c) (og:OkG g r c) (G:GAt H l b s g) (hrc:r * c <= 63) (q:Q (.loc H.length) (H++[.list (L3 ((r * c:Nat):Int))])):wpE T Φ (.bf .list (.cons (.bf .range (.cons (.bin .mul (.bf .len (.cons (.var 0) .nil)) (.bf .len (.cons (.sub (.var 0) (.int 0)) .nil))) .nil)) .nil)) Γ H Q E:=by
  refine ex1 (Xs hS og G) fun w zz=>An zz fun h1 h2 lw=>?_
  unfold OkS at hS
  rw [Dq,Ah,Dq,Ah,Cf,wbf h0,Ar G.top,Gi og (b:=b) (s:=s) (l:=l),Dq,Ah,A9,wvr h0]
  show Wp (De (.loc l) (.int ((0:Nat):Int))) H _ _
  rw [Dx G.top h1,Ax,Ar h2,lw,Iu]
  refine ⟨?_,?_⟩
  · rw [F8 (by exact Aoe hS)];rfl
  rw [Ax,<- Int.natCast_mul,Gg]
  refine ⟨⟨by exact Aof hrc,by exact Aog hrc⟩,?_⟩
  rw [Ax,X5 (by exact Aoh hrc)]
  exact q
theorem X6 {i j:Nat} {a:Int} (hS:OkS r c) (og:OkG g r c) (hrc:r * c <= 63) (G:GAt H l b s g) (ge:H[le]?=some (.dict es)) (hes:Has es F) (hi:i < r) (hj:j < c) (ha:hgt g r c ((i:Int),(j:Int))=some a) (lo:¬ lev F ((i:Int),(j:Int)) <= a) :
    wpSs T_09 (Ai T_09 (d+1)) zT2
      [some (.loc l),some (.loc le),some (Aa ((i:Int),(j:Int))),some (.int a),none,none,none,none] H (fun _ K=>∃ m,Val.none=.loc m /\ H.length <= m /\ Ext H K /\ K[m]?=some (.list ((Ri (hgt g r c) F r c ((i:Int),(j:Int))).map Aa))) (fun v K=>∃ m,v=.loc m /\ H.length <= m /\ Ext H K /\ K[m]?=some (.list ((Ri (hgt g r c) F r c ((i:Int),(j:Int))).map Aa))) NoX:=by
  show wpSs T_09 (Ai T_09 (d+1)) (.cons _ _) [some (.loc l),some (.loc le),some (Aa ((i:Int),(j:Int))),some (.int a),some (.loc H.length),none,none,none] (H++[.list ([((i:Int),(j:Int))].map Aa)]) _ _ _
  have e0:Ext H (H++[HObj.list ([((i:Int),(j:Int))].map Aa)]):=⟨_,rfl⟩
  have l0:(H++[HObj.list ([((i:Int),(j:Int))].map Aa)]).length=H.length+1:=by rw [List.length_append];rfl
  have inr:inR r c ((i:Int),(j:Int))=true:=J1 hi hj
  have e1:Ext (H++[HObj.list ([((i:Int),(j:Int))].map Aa)]) (H++[HObj.list ([((i:Int),(j:Int))].map Aa)]++[HObj.list (L3 ((r * c:Nat):Int))]):=⟨_,rfl⟩
  have ht:(H++[HObj.list ([((i:Int),(j:Int))].map Aa)]++[HObj.list (L3 ((r * c:Nat):Int))])[H.length+1]?=some (.list (L3 ((r * c:Nat):Int))):=by rw [<- l0];exact Al _ _
  obtain ⟨I,hI⟩:=Dr (fun (k:Nat) (Γ:Env') (K:Hp)=>∃ x5,BInv H l le H.length r c (okH (hgt g r c) F ((i:Int),(j:Int))) ((i:Int),(j:Int)) (fun ks p=>p∈ks.take k) (fun _ _=>False) (fun _ K=>K[H.length+1]?=some (.list (L3 ((r * c:Nat):Int)))) (some (.int a)) x5 Γ K)
  refine Nc (l:=H.length+1) (K0:=H++[HObj.list ([((i:Int),(j:Int))].map Aa)]++[HObj.list (L3 ((r * c:Nat):Int))]) I ?_ ht ((hI _ _ _).mpr ⟨_,.mk [((i:Int),(j:Int))] _ _ (e0.trans e1) (e1.get (Al H _)) ((Df.start (O:=fun _ _=>False)).imp fun p q hp=>nomatch hp) (fun q hq=>by rw [List.mem_singleton.mp hq];exact inr) ht⟩) ?_ ?_ ?_
  · refine Acs rfl hS og (G.ext e0) hrc ?_
    rw [l0];exact ⟨rfl,rfl⟩
  · intro k Γ K h
    refine Af fun G kG=>?_
    obtain ⟨x5,ks,x6,x7,ex,hl,df,inr,ht⟩:=(hI _ _ _).mp h
    refine kG ?_
    exact ht
  · intro k x Γ K hx h
    obtain ⟨x5,ks,x6,x7,ex,hl,df,inr,ht⟩:=(hI _ _ _).mp h
    obtain ⟨hr0,kr⟩:=Px hx;refine Eq.symm hr0▸?_
    rw [Ag,Bb,A2,wvr (v:=.int (k:Int)) rfl,wbf (v:=.loc H.length) rfl,Ar hl,J7,Ad,List.length_map]
    by_cases c0:(k:Int) < (ks.length:Int)
    · rw [Cd c0]
      have hk:ks[k]?=some ks[k]:=List.getElem?_eq_getElem (by exact X9 c0)
      refine ex2 (Ea (inr _ (zF hk))) fun i' j' zz=>An zz fun e hi' hj'=>?_
      rw [e] at hk
      exact X4 (d:=d) hS og hrc G ge hes ex (zI _) hl ht (by exact Aoi) hk hi' hj' df inr fun Γ K h=>(hI _ _ _).mpr ⟨_,h⟩
    · rw [Bn c0]
      refine (hI _ _ _).mpr ⟨_,.mk ks _ _ ex hl (df.imp fun p q hp _ _=>.inl ⟨?_,id⟩) inr ht⟩
      rw [List.take_of_length_le (by exact Aoj c0)] at hp
      rw [List.take_of_length_le (by exact Ag8 c0)]
      exact hp
  · intro Γ K h
    obtain ⟨x5,ks,x6,x7,ex,hl,df,inr',ht⟩:=(hI _ _ _).mp h
    rw [Lp] at df
    have kl:ks.length <= r * c:=Hu df.nd fun q hq=>Cs.mpr (inr' q hq)
    refine Nf (X1 hl) (Nd df.nd (df.fin fun p hp=>by rw [List.take_of_length_le kl];exact hp) inr' hrc) ?_
    refine ⟨K.length,rfl,ex.len,ex.new _,?_⟩
    rw [Al,P3 ha lo]
theorem Act {i j:Nat} (hS:OkS r c) (og:OkG g r c) (hrc:r * c <= 63) (G:GAt H l b s g) (ge:H[le]?=some (.dict es)) (hes:Has es F) (hi:i < r) (hj:j < c) :
    Wp (Ai T_09 (d+2) 21 [.loc l,.loc le,Aa ((i:Int),(j:Int))]) H (fun v K=>∃ m,v=.loc m /\ H.length <= m /\ Ext H K /\ K[m]?=some (.list ((Ri (hgt g r c) F r c ((i:Int),(j:Int))).map Aa))) NoE:=by
  refine ex2 (Fj og hi hj) fun w y zz=>An zz fun hw hy hcase=>?_
  rw [As (g:=Ua) rfl rfl]
  unfold Ua
  show wpSs T_09 (Ai T_09 (d+1)) (.cons _ _) [some (.loc l),some (.loc le),some (Aa ((i:Int),(j:Int))),none,none,none,none,none] H _ _ _
  rw [Ag,Bu]
  refine Vd rfl rfl G hw hy ?_
  rw [Ag,Bb,Eo,A2,wvr (v:=y) rfl,Dc]
  rcases hcase with ⟨rfl,hn⟩ | ⟨a,rfl,_,ha⟩
  · skip
    exact ⟨H.length,rfl,zI _,⟨_,rfl⟩,by rw [Ng hn];exact Al H _⟩
  rw [B3,Ad,C4,Ei,A2,wvr (v:=Aa ((i:Int),(j:Int))) rfl,wvr (v:=.loc le) rfl,Bj (show Dl .isin (Aa ((i:Int),(j:Int))) (.loc le) H=_ from M8 ge),Ad,Lx (k:=((i:Int),(j:Int))) hes]
  have rest:=X6 (d:=d) hS og hrc G ge hes hi hj ha
  cases hf:F ((i:Int),(j:Int)) with
  | none =>
    refine rest ?_
    have:=Zh og ha
    unfold lev;rw [hf];show ¬ (1000000001:Int) <= a;exact Aok left this
  | some f =>
    show brB true _ _
    rw [Ce,A2]
    show Wp (De (.loc le) (.tup [.int (i:Int),.int (j:Int)])) H _ _
    rw [G7 ge (show Ec es ((i:Int),(j:Int))=some (.int f) by rw [hes];rw [hf];rfl),T4,Ad]
    have e:lev F ((i:Int),(j:Int))=f:=by unfold lev;rw [hf];rfl
    by_cases c0:f <= a
    · rw [Cd c0]
      exact ⟨H.length,rfl,zI _,⟨_,rfl⟩,by rw [Nh ha (by rw [e];exact c0)];exact Al H _⟩
    · rw [Bn c0]
      exact rest (by rw [e];exact c0)
end
theorem I8 {r c:Nat} {i j:Int} (h:¬ (0 <= i /\ i < r /\ 0 <= j /\ j < c)):J8 r c (.tup [.int i,.int j])=none:=by
  exact if_neg fun w=>h (of_decide_eq_true w)
theorem Fg {H:Hp} {x y:Val} (hx:Ae7 x) (hy:Ae7 y):Kn H (.tup [x,y]):=fun z hz=>by
  rcases List.mem_cons.mp hz with rfl | hz
  · exact hx
  · rw [List.mem_singleton.mp hz];exact hy
noncomputable def J4 (n:Nat):List Val:=[.loc n,.tup [.int 0,.int 0,.int 0],.tup [.int 0,.bool false],.none,.tup [.int 0],.str "00",.tup [.str "0",.int 0],.tup [.int 0,.none],.tup [.tup [.int 0,.int 0],.int 0]]
theorem Acu {r c n:Nat} {K:Hp} {xs:List Val} (h:K[n]?=some (.list xs)):∀ v∈J4 n,Kn K v /\ J8 r c v=none :=
  fc ⟨⟨xs,h⟩,rfl⟩ (fc ⟨fun z hz=>(List.mem_cons.mp hz).elim (fun e=>by rw [e];trivial) fun hz=>Fg (H:=K) (x:=.int 0) (y:=.int 0) trivial trivial z hz,rfl⟩
    (fc ⟨Fg trivial trivial,rfl⟩ (fc ⟨trivial,rfl⟩ (fc ⟨fun z hz=>by rw [List.mem_singleton.mp hz];trivial,rfl⟩ (fc ⟨trivial,rfl⟩ (fc ⟨Fg trivial trivial,rfl⟩ (fc ⟨Fg trivial trivial,rfl⟩ (fc ⟨Fg trivial trivial,rfl⟩ fcn))))))))
section
variable {T:Tab} {Φ:Funs} {Γ:Env'} {H H0 K:Hp} {Q:Val -> Hp -> Prop} {E:Nat -> Hp -> Prop} {d:Nat} {QS:Env' -> Hp -> Prop} {R:Val -> Hp -> Prop} {ES:Nat -> Env' -> Hp -> Prop} {l r c m o le:Nat} {g:List (List Val)} {ks:List Key} {v:Val} {es:List (Key × Val)} {F:Key -> Option Int} {k:Key}
theorem Lk.drains (x:Lk H r c g ks l m o):Wp (Ai T_09 (d+2) 27 [.loc o]) H (fun v H'=>∃ m',v=.loc m' /\ H.length <= m' /\ Ext H H' /\ H'[m']?=some (.list (ks.map Aa))) NoE:=by
  refine Af fun G kG=>?_
  refine ex4 x.L fun lg b' ls es zz=>Ac zz fun L q=>?_
  refine kG ?_
  have hS:=x.s
  unfold OkS at hS
  have:=Ks (d:=d) hS.2.1 hS.2.2.2 L
  rw [q] at this;exact this
theorem Lk.umeth {mth fn:Nat} {Q:Nat -> Hp -> Prop} (x:Lk H r c g ks l m o) (h:T_09.meth 7 mth=some fn):Wp (C2 T_09 (.loc o) mth) H Q E=Q fn H:=by
  refine Af fun G kG=>?_
  refine ex4 x.L fun lg b' ls es zz=>Ac zz fun L q=>?_
  refine ex1 L.inst fun fs zz=>Ac zz fun f0 _=>?_
  refine kG ?_
  exact Ej f0 h
theorem X7 {a a':Nat} (ha:H[a]?=some (.list (ks.map Aa))) (hb:H[a']?=some (.list (ks.map Aa))):Wp (Ai T_09 (d+2) 35 [.loc a,.loc a']) H (fun v H'=>v=.bool true /\ Ext H H') NoE:=by
  rw [As (g:=Za) rfl rfl]
  refine Iw (fun K=>K=H) ?_ ?_
  · show Wp (A6 T_09 (.loc a) .list) H _ _
    rw [T5 _ _ ha]
    show Wp (bfV .len [.loc a]) H _ _
    rw [Ar ha]
    show Wp (bfV .len [.loc a']) H _ _
    rw [Ar hb]
    exact ⟨congrArg Val.bool (show (!decide ((List.length (ks.map Aa):Int)=List.length (ks.map Aa)))=false by rw [decide_eq_true rfl];rfl),rfl⟩
  rintro H rfl
  refine Xi (fun k Γ K=>Ext (H++[.hid]) K /\ ∃ x y,Γ=[some (.loc a),some (.loc a'),x,y]) (l:=a) (m:=a') ⟨rfl,rfl⟩ ⟨rfl,rfl⟩ ha hb rfl ⟨Ext.refl _,_,_,rfl⟩ (fun k Γ K h=>h.1) ?_ (fun Γ K h=>⟨rfl,Ext.trans ⟨_,rfl⟩ h.1⟩)
  rintro k x y Γ K hx hy ⟨eK,_,_,hr1⟩;refine Eq.symm hr1▸?_
  rw [hx] at hy
  cases hy
  refine ex1 (G8 hx) fun zn0 zz=>Ac zz fun hq hr2=>?_;obtain ⟨i,j⟩:=zn0;refine Eq.symm hr2▸?_
  show brB (!decide (i=i)) _ _
  rw [decide_eq_true rfl]
  show brB (!decide (j=j)) _ _
  rw [decide_eq_true rfl]
  exact ⟨eK,_,_,rfl⟩
theorem Os (x:Lk H r c g ks l m o) (kn:Kn H v) (np:J8 r c v=none):Wp (Ai T_09 (d+7) 20 [.loc o,v]) H (fun w K=>w=.bool true /\ H=K) NoE:=by
  refine Af fun G kG=>?_
  refine ex4 x.L fun lg b' ls es zz=>Ac zz fun L q=>?_
  refine kG ?_
  rw [As (g:=T9) rfl rfl]
  unfold T9
  show wpSs T_09 (Ai T_09 (d+6)) (.cons _ _) [some (.loc o),some v,none] H _ _ _
  refine Abl ?_
  refine (Rg (d:=d) L kn np).mono (fun _ _ h=>h.elim) ?_
  rintro e K ⟨rfl,rfl⟩
  refine Abn (by decide +kernel) (by decide +kernel) ?_
  rw [Ag,Bv,Bd,A2,A1,wcv (v:=.exc 3) rfl,Ax]
  refine Wp.of_eq U8 ?_
  rw [Pk,show Dl .eq (.str "cell") (.str "cell") H=some true by kernel_rfl]
  exact ⟨rfl,rfl⟩
theorem Acv {i j:Nat} {x0 x5 x6 x8 x9 x10 x11:Option Val} (x:Lk H r c g ks l m o) (ex:Ext H K) (ge:H[le]?=some (.dict es)) (hes:Has es F) (lv:Lv (hgt g r c) (fun k=>Aa k∈ks.map Aa) F) (hi:i < r) (hj:j < c)
    (q:∀ K' a b,Ext H K' -> QS [x0,some (.loc l),some (.loc m),some (.loc o),some (.loc le),x5,x6,some (Aa ((i:Int),(j:Int))),a,b,x10,x11] K') :
    wpS T_09 (Ai T_09 (d+7)) (.each 8 (.bf .range (.cons (.int 2) .nil)) (.cons (.assign 9 (.call 7 (.cons (.var 3) (.cons (.var 7) .nil)))) (.cons (.ite (.not (.call 35 (.cons (.var 9) (.cons (.call 21 (.cons (.var 1) (.cons (.var 4) (.cons (.var 7) .nil)))) .nil)))) (.cons (.ret (.some (.bool false))) .nil) .nil) (.cons (.expr (.bm (.var 9) .append (.cons (.tup (.cons (.int 0) (.cons (.int 0) .nil))) .nil))) .nil))))
      [x0,some (.loc l),some (.loc m),some (.loc o),some (.loc le),x5,x6,some (Aa ((i:Int),(j:Int))),x8,x9,x10,x11] K QS R NoX:=by
  have hS:=x.s
  unfold OkS at hS
  obtain ⟨I,hI⟩:=Dr (fun (k:Nat) (Γ:Env') (K':Hp)=>Ext H K' /\ ∃ a b,Γ=[x0,some (.loc l),some (.loc m),some (.loc o),some (.loc le),x5,x6,some (Aa ((i:Int),(j:Int))),a,b,x10,x11])
  refine Dk (n:=2) I ⟨rfl,rfl⟩ ⟨by decide,by decide⟩ ((hI _ _ _).mpr ⟨ex,_,_,rfl⟩) ?_ ?_
  · intro k Γ K1 hk h
    refine Af fun G kG=>?_
    refine Ac ((hI _ _ _).mp h) fun e1 zz=>ex2 zz fun a b zr3=>?_;subst zr3
    have x1:=x.ext e1
    refine ex4 x1.L fun lg b' ls es0 zz=>Ac zz fun L hq=>?_
    refine kG ?_
    have hd:∀ k,Aa k∈(cells r c).filter (inD es0) -> ∃ a,hgt g r c k=some a:=fun k hk=>by rw [hq] at hk;exact x.d k (U9.mp hk)
    rw [<- hq] at lv
    rw [Ag,Bu,A1,wcv (v:=.loc o) rfl,wcv (v:=Aa ((i:Int),(j:Int))) rfl]
    refine (X3 (d:=d+1) x.og hS.2.1 hS.2.2.2 x.n L hd lv hi hj).then ?_
    intro v K2 zz
    refine ex1 zz fun f zz=>Cm zz fun zr1 bf e2 hf=>?_;subst zr1
    show wpSs T_09 (Ai T_09 (d+7)) (.cons _ _) [x0,some (.loc l),some (.loc m),some (.loc o),some (.loc le),x5,x6,some (Aa ((i:Int),(j:Int))),some (.int (k:Int)),some (.loc f),x10,x11] K2 _ _ _
    have x2:=x1.ext e2
    rw [Ag,Bb,C8,A1,wcv (v:=.loc f) rfl,Ah,A1,wcv (v:=.loc l) rfl,wcv (v:=.loc le) rfl,wcv (v:=Aa ((i:Int),(j:Int))) rfl]
    refine (Act (d:=d+5) x.s x.og x.n x2.G (e2.get (e1.get ge)) hes hi hj).then ?_
    intro v K3 zz
    refine ex1 zz fun f' zz=>Cm zz fun zr1 _ e3 hf'=>?_;subst zr1
    refine (X7 (d:=d+5) (e3.get hf) hf').then ?_
    rintro v K4 ⟨rfl,e4⟩
    have hf4:=e4.get (e3.get hf)
    refine Cw rfl hf4 ?_
    refine ⟨_,hf4,?_,(hI _ _ _).mpr ⟨((e1.trans (e2.trans (e3.trans e4)))).set (zC e1.len bf) _,_,_,rfl⟩⟩
    rw [List.length_map]
    have t1:(Ri (hgt g r c) F r c ((i:Int),(j:Int))).length <= r * c:=by
      unfold Ri
      split
      · exact Nat.zero_le _
      · split
        · exact Nat.zero_le _
        · unfold Il
          refine zC (List.length_filter_le _ _) ?_
          rw [Ff];exact zI _
    have t2:=x.n
    show _ < 16777216
    exact Aol t2 t1
  · intro Γ K1 h
    refine Af fun G kG=>?_
    refine Ac ((hI _ _ _).mp h) fun e1 zz=>ex2 zz fun a b zr3=>?_;subst zr3
    refine kG ?_
    exact q K1 a b e1
end
section
variable {T:Tab} {Φ:Funs} {Γ:Env'} {H H0 K:Hp} {Q:Val -> Hp -> Prop} {E:Nat -> Hp -> Prop} {d:Nat} {QS:Env' -> Hp -> Prop} {R:Val -> Hp -> Prop} {ES:Nat -> Env' -> Hp -> Prop} {l r c m o le:Nat} {g:List (List Val)} {ks:List Key} {v:Val} {es:List (Key × Val)} {F:Key -> Option Int} {k:Key}
theorem Ve:wpE T Φ (.neg (.int 1)) Γ H Q E=Q (.int (-1)) H:=rfl
theorem Vf {n:Int} {x0 x6 x7 x8 x9 x10 x11:Option Val} (x:Lk H r c g ks l m o) (ge:H[le]?=some (.dict es)) (hes:Has es F) (lv:Lv (hgt g r c) (fun k=>Aa k∈ks.map Aa) F)
    (q:∀ K' a b c' e,Ext H K' -> QS [x0,some (.loc l),some (.loc m),some (.loc o),some (.loc le),some (.int n),a,b,c',e,x10,x11] K') :
    wpS T_09 (Ai T_09 (d+7)) (.each 6 (.tup (.cons (.int 0) (.cons (.int 7) .nil))) zT4)
      [x0,some (.loc l),some (.loc m),some (.loc o),some (.loc le),some (.int n),x6,x7,x8,x9,x10,x11] H QS R NoX:=by
  have hS:=x.s
  unfold OkS at hS
  have ll:=Gi x.og (b:=l+2) (s:=2) (l:=l)
  refine C5 ?_
  obtain ⟨I,hI⟩:=Dr (fun (k:Nat) (Γ:Env') (K':Hp)=>Ext H K' /\ ∃ a b c' e,Γ=[x0,some (.loc l),some (.loc m),some (.loc o),some (.loc le),some (.int n),a,b,c',e,x10,x11])
  refine B9 I ((hI _ _ _).mpr ⟨Ext.refl _,_,_,_,_,rfl⟩) ?_ (fun _ _ _ _ _=>rfl) ?_
  · intro Γ K1 h
    refine Ac ((hI _ _ _).mp h) fun e1 zz=>ex4 zz fun a b c' e zr5=>?_;subst zr5
    exact q K1 a b c' e e1
  · intro k z Γ K1 hz h
    refine Af fun G kG=>?_
    refine Ac ((hI _ _ _).mp h) fun e1 zz=>ex4 zz fun a b c' e zr5=>?_;subst zr5
    have iz:∀ v∈[Val.int 0,Val.int 7],∃ z,v=.int z:=fc ⟨_,rfl⟩ (fc ⟨_,rfl⟩ fcn)
    obtain ⟨z,rfl⟩:=iz z (zF hz)
    have x1:=x.ext e1
    refine ex1 (Cr (n+z) r (by exact Aom hS ll)) fun i zz=>Ac zz fun hi li=>?_
    refine ex1 (Cr (Int.fdiv n 31+z) c (by exact Aon hS)) fun j zz=>Ac zz fun hj lj=>?_
    refine kG ?_
    refine ⟨_,rfl,?_⟩
    refine Au (fun v K=>v=Aa ((i:Int),(j:Int)) /\ K1=K) ?_ ?_
    · rw [Dw,Ah,Cf,Cf,wvr (v:=.int n) rfl,wvr (v:=.int z) rfl,F6,wbf (v:=.loc l) rfl,Ar x1.G.top,ll,Jv]
      refine ⟨by exact Aoo hS ll,?_⟩
      rw [Ah,Cf,Cf,Cf,wvr (v:=.int n) rfl,A8,H9]
      refine ⟨by decide,?_⟩
      rw [wvr (v:=.int z) rfl,F6,Dq,Ah,A9,wvr (v:=.loc l) rfl]
      show Wp (De (.loc l) (.int 0)) K1 (fun v H'=>Wp (bfV .len [v]) H' _ _) _
      rw [I6 x.s x.og x1.G,Jv]
      refine ⟨by exact Aop hS,?_⟩
      rw [Ax,hi,hj]
      exact ⟨rfl,rfl⟩
    rintro v K2 ⟨rfl,rfl⟩
    exact Acv (d:=d) x e1 ge hes lv li lj fun K3 a b e3=>(hI _ _ _).mpr ⟨e3,_,_,_,_,rfl⟩
theorem X8 {n:Int} {x0 x4 x6 x7 x8 x9 x10 x11:Option Val} {ss:MSs} (x:Lk K r c g ks l m o)
    (q:∀ K2 a b,Ext K K2 -> wpSs T_09 (Ai T_09 (d+7)) ss [x0,some (.loc l),some (.loc m),some (.loc o),x4,some (.int n),x6,x7,x8,x9,a,b] K2 QS R NoX) :
    wpSs T_09 (Ai T_09 (d+7)) (.cons (.assign 10 (.list (.cons (.list (.cons (.int 0) (.cons (.int 0) .nil))) (.cons (.tup (.cons (.int 0) (.cons (.int 0) (.cons (.int 0) .nil)))) (.cons (.tup (.cons (.int 0) (.cons (.bool false) .nil))) (.cons .none (.cons (.tup (.cons (.int 0) .nil)) (.cons (.str "00") (.cons (.tup (.cons (.str "0") (.cons (.int 0) .nil))) (.cons (.tup (.cons (.int 0) (.cons .none .nil))) (.cons (.tup (.cons (.tup (.cons (.int 0) (.cons (.int 0) .nil))) (.cons (.int 0) .nil))) .nil))))))))))) (.cons (.each 11 (.list (.cons (.tup (.cons (.bf .len (.cons (.var 1) .nil)) (.cons (.int 0) .nil))) (.cons (.tup (.cons (.neg (.int 1)) (.cons (.int 0) .nil))) (.cons (.tup (.cons (.int 0) (.cons (.bf .len (.cons (.sub (.var 1) (.int 0)) .nil)) .nil))) (.cons (.tup (.cons (.int 0) (.cons (.neg (.int 1)) .nil))) (.cons (.sub (.var 10) (.bin .mod (.bin .fdiv (.var 5) (.int 7)) (.int 9))) .nil)))))) zT18) ss))
      [x0,some (.loc l),some (.loc m),some (.loc o),x4,some (.int n),x6,x7,x8,x9,x10,x11] K QS R NoX:=by
  refine Au (fun v K'=>v=.loc (K++[HObj.list [.int 0,.int 0]]).length /\ K'=K++[HObj.list [.int 0,.int 0]]++[HObj.list (J4 K.length)]) ⟨rfl,rfl⟩ ?_
  rintro v K' ⟨rfl,e⟩
  have e1:Ext K K':=by rw [e];exact (Ext.new ⟨_,rfl⟩ _)
  have g1:K'[K.length]?=some (.list [.int 0,.int 0]):=by rw [e];exact Ext.get ⟨_,rfl⟩ (Al K _)
  have g2:K'[(K++[HObj.list [.int 0,.int 0]]).length]?=some (.list (J4 K.length)):=by rw [e];exact Al _ _
  clear e
  refine ex1 (Cr (Int.fdiv n 7) 9 (by decide)) fun j zz=>Ac zz fun hj lj=>?_
  have lj':j < (J4 K.length).length:=lj
  have e9:=List.getElem?_eq_getElem lj'
  have xx:=x.ext e1
  have hS:=x.s
  unfold OkS at hS
  have ll:=Gi x.og (b:=l+2) (s:=2) (l:=l)
  generalize (K++[HObj.list [.int 0,.int 0]]).length=ln at *
  have e2:Ext K' (K'++[HObj.list [.tup [.int (r:Int),.int 0],.tup [.int (-1),.int 0],.tup [.int 0,.int (c:Int)],.tup [.int 0,.int (-1)],(J4 K.length)[j]]]):=⟨_,rfl⟩
  have hv:∀ v∈[.tup [.int (r:Int),.int 0],.tup [.int (-1),.int 0],.tup [.int 0,.int (c:Int)],.tup [.int 0,.int (-1)],(J4 K.length)[j]],Kn K' v /\ J8 r c v=none :=
    fc ⟨Fg trivial trivial,I8 (by exact Aoq)⟩ (fc ⟨Fg trivial trivial,I8 (by exact Aor)⟩ (fc ⟨Fg trivial trivial,I8 (by exact Aos)⟩ (fc ⟨Fg trivial trivial,I8 (by exact Aot)⟩ (fc (Acu g1 _ (List.getElem_mem lj')) fcn))))
  obtain ⟨I,hI⟩:=Dr (fun (k:Nat) (Γ:Env') (K2:Hp)=>K2=K'++[HObj.list [.tup [.int (r:Int),.int 0],.tup [.int (-1),.int 0],.tup [.int 0,.int (c:Int)],.tup [.int 0,.int (-1)],(J4 K.length)[j]]] /\ ∃ a,Γ=[x0,some (.loc l),some (.loc m),some (.loc o),x4,some (.int n),x6,x7,x8,x9,some (.loc ln),a])
  refine Nc (l:=K'.length) I ?_ (Al K' _) ((hI _ _ _).mpr ⟨rfl,_,rfl⟩) (fun k Γ K2 h=>by rw [((hI _ _ _).mp h).1];exact Al K' _) ?_ ?_
  · rw [E9,Ah,Dw,Ah,wbf (v:=.loc l) rfl,Ar xx.G.top,ll,Ah,A8,Ax,Ah,Dw,Ah,Ve,Ah,A8,Ax,Ah,Dw,Ah,A8,Ah,Dq,Ah,A9,wvr (v:=.loc l) rfl]
    show Wp (De (.loc l) (.int 0)) K' (fun v H'=>Wp (bfV .len [v]) H' _ _) _
    rw [I6 x.s x.og xx.G,Ax,Ah,Dw,Ah,A8,Ah,Ve,Ax,Ah,A9,wvr (v:=.loc ln) rfl,Cf,Cf,wvr (v:=.int n) rfl]
    refine ⟨by decide,?_⟩
    refine ⟨by decide,?_⟩
    rw [show Int.fmod (Int.fdiv n 7) 9=(j:Int) from hj]
    exact Og g2 (by exact Aou lj) (by exact e9) ⟨rfl,rfl⟩
  · intro k u Γ K2 hu h
    refine Ac ((hI _ _ _).mp h) fun zr0 zz=>ex1 zz fun a zr2=>?_;subst zr0;subst zr2
    obtain ⟨kn,np⟩:=hv u (zF hu)
    rw [Ag,Bb,C8,A1,wcv (v:=.loc o) rfl,wcv (v:=u) rfl]
    refine (Os (d:=d) (xx.ext e2) (kn.ext e2) np).then ?_
    rintro w K3 ⟨rfl,rfl⟩
    exact (hI _ _ _).mpr ⟨rfl,_,rfl⟩
  · intro Γ K2 h
    refine Ac ((hI _ _ _).mp h) fun zr0 zz=>ex1 zz fun a zr2=>?_;subst zr0;subst zr2
    exact q _ _ _ (e1.trans e2)
theorem Acw {x0 x4 x5 x6 x7 x8 x9 x10 x11:Option Val} (x:Lk H r c g ks l m o) :
    wpE T_09 (Ai T_09 (d+7)) (.and (.cmp .eq (.umeth (.var 3) 5 .nil) (.var 1)) (.cmp .eq (.umeth (.var 3) 4 .nil) (.var 2))) [x0,some (.loc l),some (.loc m),some (.loc o),x4,x5,x6,x7,x8,x9,x10,x11] H (fun v _=>v=.bool true) E:=by
  refine Af fun G kG=>?_
  obtain ⟨lg,b',ls,es,L,hq⟩:=x.L
  refine kG ?_
  have hS:=x.s
  unfold OkS at hS
  rw [Ei,A2,B0,wvr (v:=.loc o) rfl,x.umeth (show T_09.meth 7 5=some 28 from rfl)]
  refine (Ol (d:=d+6) x.og hS.2.1 L).then ?_
  rintro v K1 ⟨rfl,e1,G1⟩
  have x1:=x.ext e1
  rw [wvr (v:=.loc l) rfl,show Dl .eq (.loc (H.length+r)) (.loc l) K1=some true from Xy G1 x1.G x.og.nv,Ck,Ad]
  rw [Ce,A2,B0,wvr (v:=.loc o) rfl,x1.umeth (show T_09.meth 7 4=some 27 from rfl)]
  refine (x1.drains (d:=d+5)).then ?_
  intro v K2 zz
  obtain ⟨m',rfl,_,e2,g2⟩:=zz
  have x2:=x1.ext e2
  rw [wvr (v:=.loc m) rfl,show Dl .eq (.loc m') (.loc m) K2=some true from Xz g2 x2.m,Ck]
theorem Acx (n:Nat):(if ((n:Int) - 1) > 0 then ((n:Int) - 1) else 0)=(((n - 1:Nat)):Int):=by
  by_cases h:((n:Int) - 1) > 0
  · rw [if_pos h];exact Aov h
  · rw [if_neg h];exact Aow h
theorem Acy (ns:List Int):Wp (Ai T_09 (d+8) 22 [.script ns]) H (fun v _=>v=.bool true) NoE:=by
  rw [As (g:=Y5) rfl rfl]
  refine Au _ (Xn (d:=d+4) ns) ?_
  intro _ H1 zz
  refine ex4 zz fun r c g l zz=>Fo zz fun zr4 hS hrc og G=>?_;subst zr4
  refine Au _ (Oq (d:=d+5) ns hS og G) ?_
  intro _ H2 zz
  refine ex3 zz fun m n e zz=>Cm zz fun zr3 _ e2 hm=>?_;subst zr3
  have G:=G.ext e2
  have hks:∀ k∈(Gj r c).filter (Ik g r c n e),∃ a,hgt g r c k=some a:=fun k hk=>by
    have:=(List.mem_filter.mp hk).2
    unfold Ik at this
    cases ha:hgt g r c k with
    | none=>rw [ha] at this;cases this
    | some a=>exact ⟨a,rfl⟩
  have kl:((Gj r c).filter (Ik g r c n e)).length <= 63:=by
    have:=List.length_filter_le (Ik g r c n e) (Gj r c)
    rw [Ff] at this;exact Aox hrc this
  refine Au _ (Xv (d:=d+2) hS og G hm hks (by exact Aoy kl)) ?_
  intro _ H3 zz
  refine ex5 zz fun o lg b' ls es zz=>Cm zz fun zr5 e3 L hin=>?_;subst zr5
  have x:Lk H3 r c g ((Gj r c).filter (Ik g r c n e)) l m o:=⟨hS,hrc,og,G.ext e3,e3.get hm,⟨lg,b',ls,es,L,Re hin⟩,hks⟩
  clear hin L hm G e2 e3
  generalize (Gj r c).filter (Ik g r c n e)=ks at *
  refine Au _ (Rb (d:=d+4) hS og x.G hrc x.m (by rw [List.length_map];exact Aoz kl) (fun v hv=>?_)) ?_
  · refine ex1 (List.mem_map.mp hv) fun k zz=>Ac zz fun hk zr2=>?_;subst zr2
    obtain ⟨a,ha⟩:=x.d k hk
    exact ⟨k,a,rfl,ha⟩
  intro _ H4 zz
  refine ex3 zz fun le es' F zz=>Lz zz fun zr3 _ e4 ge hes lv=>?_;subst zr3
  have x4:=x.ext e4
  refine Au (fun v K=>∃ z,v=.int z /\ H4=K) ?_ ?_
  · rw [A1,wcv (v:=.script ns) rfl,Ah,Dq,Ah,A8,Ah,Cf,wbf (v:=.script ns) rfl,B2]
    show Wp (Ai T_09 (d+7) 8 [.script ns,.int (if ((ns.length:Int) - 1) > 0 then ((ns.length:Int) - 1) else 0)]) H4 _ _
    rw [Acx,Gh]
    exact ⟨_,rfl,rfl⟩
  rintro _ K ⟨z,rfl,rfl⟩
  refine Vf (d:=d) x4 ge hes lv fun K2 a b c' e e5=>?_
  refine X8 (d:=d) (x4.ext e5) fun K3 a' b' e6=>?_
  exact Acw (d:=d) ((x4.ext e5).ext e6)
end
theorem law_09 (ns:List Int) (hlen:ns.length <= 63):∃ H',Ai T_09 20 22 [.script ns] []=.ok (.bool true) H':=by
  refine Af fun G kG=>?_
  refine ex2 ((Acy (d:=12) (H:=[]) ns).get) fun v H' zz=>Ac zz fun e zr3=>?_;subst zr3
  refine kG ?_
  exact ⟨H',e⟩
end Mine.Internal.Pure
namespace Mine.Internal
open PySem PySem.W PySem.Calls
noncomputable def headAll (t:Addr -> Option Obj) (N:Names) (T:Tab) (cls:List Value) (attrs:List Str) (fns:List Addr) (nss:List (List Str)):Bool :=
  Tj t N T cls fns nss && Km t N T attrs fns 0 cls && Ld N attrs && Ph t T cls && (t sysModules).isSome
noncomputable def fns_09:List Addr:=[28,35,40,47,139,146,280,287,294,301,315,322,329,334,341,346,351,358,365,379,386,372,393,158,165,172,193,205,210,231,238,245,252,259,266,308]
noncomputable def q_09:Program:=view PySem.Challenge.pw_uf020016_09 [PySem.Challenge.pw_uf020016_09.main.body.length - 1]
noncomputable def loose_09:List Str:=(PySem.Challenge.pw_uf020016_09.main.scope.names.map (·.1)).filter (· != "law")
set_option maxRecDepth 100000
set_option maxHeartbeats 0
theorem left_09:LeftO PySem.Challenge.pw_uf020016_09 q_09 loose_09 (fun s=>recOk [] s) (fun s=>headAll s.heap.get? N_09 T_09 [.ref 57,.ref 70,.ref 82,.ref 94,.ref 106,.ref 118,.ref 130,.ref 213,.ref 269,.type "ValueError"] ["rows","columns","grid","sinks","heap"] fns_09 V_09) (fun _=>true) 9000 true:=by
  refine Abh (M:=8000) (by kernel_rfl) (by kernel_rfl) (fun s=>by kernel_rfl) (by kernel_rfl) ?_
  intro w os
  rw [PySem.W.Fast.te4187177175401517315]
  kernel_rfl
theorem said_09:PySem.Challenge.rw_uf020016_09.wellSaid=true:=by
  rw [PySem.W.Fast.te9446332074065402090]
  kernel_rfl
noncomputable def Ix:DefRec × List (Str × Expr):=(defOf q_09 "law").get (by kernel_rfl)
theorem hdef_09:defOf q_09 "law"=some (Ix.1,Ix.2):=by kernel_rfl
theorem hp_09:PySem.Challenge.pw_uf020016_09.theDef "law"=some (Ix.1.params,Ix.1.body,Ix.1.scope):=by kernel_rfl
theorem hk_09:kwWritten? Ix.1.params.kwonlyargs Ix.1.params.kw_defaults=some Ix.2:=by kernel_rfl
end Mine.Internal
open PySem PySem.W PySem.W.X PySem.W.ZRun PyProof.Rows
set_option maxRecDepth 100000 in
set_option maxHeartbeats 0 in
theorem PySem.Challenge.cw_uf020016_09_holds : PySem.Challenge.rw_uf020016_09.Holds := by
  refine holds_law Mine.Internal.said_09 fun Zv => ?_
  refine holds_openX (q := Mine.Internal.q_09) (loose := Mine.Internal.loose_09) (Xt := fun s => recOk [] s) (XP := fun _ _ => True) (N := 9000) Mine.Internal.left_09 (fun _ _ => trivial) (fun _ _ _ h _ => h) Mine.Internal.hdef_09 Mine.Internal.hp_09 Mine.Internal.hk_09 (fun s e => recFacts_of e) rfl Zv (by decide +kernel) ⟨rfl, rfl, rfl, rfl, rfl, by decide +kernel⟩ ?hw ?hc
  case hw => exact ⟨[.list []], by decide +kernel, by decide +kernel⟩
  intro w s₀ s₁ mg mb G y fa o pm cd doc dV kV ho hd hcd hD hmg hg args vals as L hpre hlay hrd hwl hlo
  refine Ground.open G ?_
  intro T B D TE TW
  wrow_args hpre hlay hrd hwl hlo
  have y' : Mine.Internal.headAll s₀.heap.get? Mine.Internal.N_09 Mine.Internal.T_09 [.ref 57, .ref 70, .ref 82, .ref 94, .ref 106, .ref 118, .ref 130, .ref 213, .ref 269, .type "ValueError"] ["rows", "columns", "grid", "sinks", "heap"] Mine.Internal.fns_09 Mine.Internal.V_09 = true := y
  unfold Mine.Internal.headAll at y'
  simp only [Bool.and_eq_true] at y'
  obtain ⟨⟨⟨⟨y1, y2⟩, y3⟩, yx⟩, y4⟩ := y'
  refine Mine.Internal.finish (t := s₀.heap.get?) (N := Mine.Internal.N_09) (T := Mine.Internal.T_09) (cls := [.ref 57, .ref 70, .ref 82, .ref 94, .ref 106, .ref 118, .ref 130, .ref 213, .ref 269, .type "ValueError"]) (attrs := ["rows", "columns", "grid", "sinks", "heap"]) (fns := Mine.Internal.fns_09) (nss := Mine.Internal.V_09) (k := 22) (d := 20) L.keeps T.g T.b T.builtins T.nolimit y1 y2 y3 yx y4 (script_obj L (by assumption)) (by assumption) (by omega) hmg rfl ⟨rfl, by decide, by decide⟩ (Mine.Internal.Pure.law_09 _ (by omega)) ?_
  intro s' hk ho' hg'
  exact ⟨.inl ⟨_, .bool true, [], rfl, raisesW_false (by wrow_none_raised), .bool true, by wrow_post, fun _ => ⟨List.nodup_nil, fun a ha => by cases ha⟩⟩, .of_keep hk, ho', .of_eq (hg'.trans hg)⟩
