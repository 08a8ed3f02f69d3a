import PyProof.Rows.All
import PyProof.StrBlock
import PyProof.StrBlockI
import PyProof.StrBlockL
import PyProof.P3Statements
import PyProof.RaisesMany
import PyProof.ExcArgsOwn
import KE.KIsNot
import PyProof.DictRoadsH
import PyProof.DictKinds
import PyProof.InstLoad
import PyProof.ObjNew
import PyProof.Cells
import PyProof.WalksMore
import PyProof.Calls
import PyProof.DefCall
import PyProof.ListMulRoad
import PyProof.Rows.ListMul
import PyProof.ExcClass2
import PyProof.ExcBaseAll.ValueError
import PyProof.TupleKey
import PyProof.IsiSeqPairs
import PyProof.IsiNone
import PyProof.TupleOfSeq
import PyProof.ListRange
import PyProof.WalkInts
import PyProof.CallStr
import PyProof.FitsInt
import PyProof.Rows.StrJoin2
import KE.KIntText
import KE.IntTextLaws
import PyProof.Rows.StrNews
import PyProof.Rows.StrItems
import PyProof.Rows.StrSplitAre
import PyProof.CallRoads
import PyProof.StrWalks
import KE.KSortTup
import KE.KDictSum
import PyProof.SetScanFacts
import PyProof.SetKind
import PyProof.IsRules
import PyProof.Rows.SetFrom
import PyProof.RulesDelMore
import PyProof.CompFree
import PyProof.CompUse
import PyProof.LetGo
import PyProof.AssignAttr
import PyProof.InstStoreFacts
import PyProof.SliceMore
import PyProof.StrBlockH
import PyProof.WalksPairs
import PyProof.ZipIter
import PyProof.EnumFor
import PyProof.ListIndex
import Open.FastRun
import PyProof.FitsReplace
import PyProof.StrLawsIn
import PyProof.StrLawsOcc
import PyProof.StrLawsTight
import PyProof.StrLawsNeg
import Wide.All
import OpenK.AllK
import Wide.FinOn
import Lean
import PySem.Challenge.RW_uf020016_12
set_option Elab.async false
set_option autoImplicit false
set_option genSizeOfSpec false
set_option genSizeOf false
set_option backward.match.sparseCases false
set_option genInjectivity false
set_option tactic.hygienic false
set_option bootstrap.genMatcherCode false
set_option linter.all false
set_option linter.unusedSimpArgs false
namespace Mine.Internal
theorem ex1 {α1:Sort _} {p:α1 -> Prop} {G:Prop} (h:∃ x1:α1,p x1) (k:(x1:α1) -> p x1 -> G):G:=h.elim fun x1 h=>k x1 h
theorem ex2 {α1 α2:Sort _} {p:α1 -> α2 -> Prop} {G:Prop} (h:∃ x1:α1,∃ x2:α2,p x1 x2) (k:(x1:α1) -> (x2:α2) -> p x1 x2 -> G):G:=h.elim fun x1 h=>h.elim fun x2 h=>k x1 x2 h
theorem ex3 {α1 α2 α3:Sort _} {p:α1 -> α2 -> α3 -> Prop} {G:Prop} (h:∃ x1:α1,∃ x2:α2,∃ x3:α3,p x1 x2 x3) (k:(x1:α1) -> (x2:α2) -> (x3:α3) -> p x1 x2 x3 -> G):G:=h.elim fun x1 h=>h.elim fun x2 h=>h.elim fun x3 h=>k x1 x2 x3 h
theorem ex4 {α1 α2 α3 α4:Sort _} {p:α1 -> α2 -> α3 -> α4 -> Prop} {G:Prop} (h:∃ x1:α1,∃ x2:α2,∃ x3:α3,∃ x4:α4,p x1 x2 x3 x4) (k:(x1:α1) -> (x2:α2) -> (x3:α3) -> (x4:α4) -> p x1 x2 x3 x4 -> G):G:=h.elim fun x1 h=>h.elim fun x2 h=>h.elim fun x3 h=>h.elim fun x4 h=>k x1 x2 x3 x4 h
theorem ex5 {α1 α2 α3 α4 α5:Sort _} {p:α1 -> α2 -> α3 -> α4 -> α5 -> Prop} {G:Prop} (h:∃ x1:α1,∃ x2:α2,∃ x3:α3,∃ x4:α4,∃ x5:α5,p x1 x2 x3 x4 x5) (k:(x1:α1) -> (x2:α2) -> (x3:α3) -> (x4:α4) -> (x5:α5) -> p x1 x2 x3 x4 x5 -> G):G:=h.elim fun x1 h=>h.elim fun x2 h=>h.elim fun x3 h=>h.elim fun x4 h=>h.elim fun x5 h=>k x1 x2 x3 x4 x5 h
theorem ex6 {α1 α2 α3 α4 α5 α6:Sort _} {p:α1 -> α2 -> α3 -> α4 -> α5 -> α6 -> Prop} {G:Prop} (h:∃ x1:α1,∃ x2:α2,∃ x3:α3,∃ x4:α4,∃ x5:α5,∃ x6:α6,p x1 x2 x3 x4 x5 x6) (k:(x1:α1) -> (x2:α2) -> (x3:α3) -> (x4:α4) -> (x5:α5) -> (x6:α6) -> p x1 x2 x3 x4 x5 x6 -> G):G:=h.elim fun x1 h=>h.elim fun x2 h=>h.elim fun x3 h=>h.elim fun x4 h=>h.elim fun x5 h=>h.elim fun x6 h=>k x1 x2 x3 x4 x5 x6 h
theorem ex7 {α1 α2 α3 α4 α5 α6 α7:Sort _} {p:α1 -> α2 -> α3 -> α4 -> α5 -> α6 -> α7 -> Prop} {G:Prop} (h:∃ x1:α1,∃ x2:α2,∃ x3:α3,∃ x4:α4,∃ x5:α5,∃ x6:α6,∃ x7:α7,p x1 x2 x3 x4 x5 x6 x7) (k:(x1:α1) -> (x2:α2) -> (x3:α3) -> (x4:α4) -> (x5:α5) -> (x6:α6) -> (x7:α7) -> p x1 x2 x3 x4 x5 x6 x7 -> G):G:=h.elim fun x1 h=>h.elim fun x2 h=>h.elim fun x3 h=>h.elim fun x4 h=>h.elim fun x5 h=>h.elim fun x6 h=>h.elim fun x7 h=>k x1 x2 x3 x4 x5 x6 x7 h
theorem Afm {α1 α2 α3 α4 α5 α6 α7 α8 α9 α10 α11 α12 α13 α14:Sort _} {p:α1 -> α2 -> α3 -> α4 -> α5 -> α6 -> α7 -> α8 -> α9 -> α10 -> α11 -> α12 -> α13 -> α14 -> Prop} {G:Prop} (h:∃ x1:α1,∃ x2:α2,∃ x3:α3,∃ x4:α4,∃ x5:α5,∃ x6:α6,∃ x7:α7,∃ x8:α8,∃ x9:α9,∃ x10:α10,∃ x11:α11,∃ x12:α12,∃ x13:α13,∃ x14:α14,p x1 x2 x3 x4 x5 x6 x7 x8 x9 x10 x11 x12 x13 x14) (k:(x1:α1) -> (x2:α2) -> (x3:α3) -> (x4:α4) -> (x5:α5) -> (x6:α6) -> (x7:α7) -> (x8:α8) -> (x9:α9) -> (x10:α10) -> (x11:α11) -> (x12:α12) -> (x13:α13) -> (x14:α14) -> p x1 x2 x3 x4 x5 x6 x7 x8 x9 x10 x11 x12 x13 x14 -> G):G:=h.elim fun x1 h=>h.elim fun x2 h=>h.elim fun x3 h=>h.elim fun x4 h=>h.elim fun x5 h=>h.elim fun x6 h=>h.elim fun x7 h=>h.elim fun x8 h=>h.elim fun x9 h=>h.elim fun x10 h=>h.elim fun x11 h=>h.elim fun x12 h=>h.elim fun x13 h=>h.elim fun x14 h=>k x1 x2 x3 x4 x5 x6 x7 x8 x9 x10 x11 x12 x13 x14 h
theorem Ac {p1 p2 G:Prop} (h:p1 /\ p2) (k:p1 -> p2 -> G):G:=k (h.1) (h.2)
theorem As {p1 p2 p3 G:Prop} (h:p1 /\ p2 /\ p3) (k:p1 -> p2 -> p3 -> G):G:=k (h.1) (h.2.1) (h.2.2)
theorem By {p1 p2 p3 p4 G:Prop} (h:p1 /\ p2 /\ p3 /\ p4) (k:p1 -> p2 -> p3 -> p4 -> G):G:=k (h.1) (h.2.1) (h.2.2.1) (h.2.2.2)
theorem Fe {p1 p2 p3 p4 p5 G:Prop} (h:p1 /\ p2 /\ p3 /\ p4 /\ p5) (k:p1 -> p2 -> p3 -> p4 -> p5 -> G):G:=k (h.1) (h.2.1) (h.2.2.1) (h.2.2.2.1) (h.2.2.2.2)
theorem Kp {p1 p2 p3 p4 p5 p6 G:Prop} (h:p1 /\ p2 /\ p3 /\ p4 /\ p5 /\ p6) (k:p1 -> p2 -> p3 -> p4 -> p5 -> p6 -> G):G:=k (h.1) (h.2.1) (h.2.2.1) (h.2.2.2.1) (h.2.2.2.2.1) (h.2.2.2.2.2)
theorem R6 {p1 p2 p3 p4 p5 p6 p7 G:Prop} (h:p1 /\ p2 /\ p3 /\ p4 /\ p5 /\ p6 /\ p7) (k:p1 -> p2 -> p3 -> p4 -> p5 -> p6 -> p7 -> G):G:=k (h.1) (h.2.1) (h.2.2.1) (h.2.2.2.1) (h.2.2.2.2.1) (h.2.2.2.2.2.1) (h.2.2.2.2.2.2)
theorem Ah1 {p1 p2 p3 p4 p5 p6 p7 p8 G:Prop} (h:p1 /\ p2 /\ p3 /\ p4 /\ p5 /\ p6 /\ p7 /\ p8) (k:p1 -> p2 -> p3 -> p4 -> p5 -> p6 -> p7 -> p8 -> G):G:=k (h.1) (h.2.1) (h.2.2.1) (h.2.2.2.1) (h.2.2.2.2.1) (h.2.2.2.2.2.1) (h.2.2.2.2.2.2.1) (h.2.2.2.2.2.2.2)
theorem Alb {p1 p2 p3 p4 p5 p6 p7 p8 p9 G:Prop} (h:p1 /\ p2 /\ p3 /\ p4 /\ p5 /\ p6 /\ p7 /\ p8 /\ p9) (k:p1 -> p2 -> p3 -> p4 -> p5 -> p6 -> p7 -> p8 -> p9 -> G):G:=k (h.1) (h.2.1) (h.2.2.1) (h.2.2.2.1) (h.2.2.2.2.1) (h.2.2.2.2.2.1) (h.2.2.2.2.2.2.1) (h.2.2.2.2.2.2.2.1) (h.2.2.2.2.2.2.2.2)
theorem Aby {p1 p2 p3 p4 p5 p6 p7 p8 p9 p10 G:Prop} (h:p1 /\ p2 /\ p3 /\ p4 /\ p5 /\ p6 /\ p7 /\ p8 /\ p9 /\ p10) (k:p1 -> p2 -> p3 -> p4 -> p5 -> p6 -> p7 -> p8 -> p9 -> p10 -> G):G:=k (h.1) (h.2.1) (h.2.2.1) (h.2.2.2.1) (h.2.2.2.2.1) (h.2.2.2.2.2.1) (h.2.2.2.2.2.2.1) (h.2.2.2.2.2.2.2.1) (h.2.2.2.2.2.2.2.2.1) (h.2.2.2.2.2.2.2.2.2)
theorem Ah2 {p1 p2 p3 p4 p5 p6 p7 p8 p9 p10 p11 G:Prop} (h:p1 /\ p2 /\ p3 /\ p4 /\ p5 /\ p6 /\ p7 /\ p8 /\ p9 /\ p10 /\ p11) (k:p1 -> p2 -> p3 -> p4 -> p5 -> p6 -> p7 -> p8 -> p9 -> p10 -> p11 -> G):G:=k (h.1) (h.2.1) (h.2.2.1) (h.2.2.2.1) (h.2.2.2.2.1) (h.2.2.2.2.2.1) (h.2.2.2.2.2.2.1) (h.2.2.2.2.2.2.2.1) (h.2.2.2.2.2.2.2.2.1) (h.2.2.2.2.2.2.2.2.2.1) (h.2.2.2.2.2.2.2.2.2.2)
theorem Ah3 {p1 p2 p3 p4 p5 p6 p7 p8 p9 p10 p11 p12 p13 p14 G:Prop} (h:p1 /\ p2 /\ p3 /\ p4 /\ p5 /\ p6 /\ p7 /\ p8 /\ p9 /\ p10 /\ p11 /\ p12 /\ p13 /\ p14) (k:p1 -> p2 -> p3 -> p4 -> p5 -> p6 -> p7 -> p8 -> p9 -> p10 -> p11 -> p12 -> p13 -> p14 -> G):G:=k (h.1) (h.2.1) (h.2.2.1) (h.2.2.2.1) (h.2.2.2.2.1) (h.2.2.2.2.2.1) (h.2.2.2.2.2.2.1) (h.2.2.2.2.2.2.2.1) (h.2.2.2.2.2.2.2.2.1) (h.2.2.2.2.2.2.2.2.2.1) (h.2.2.2.2.2.2.2.2.2.2.1) (h.2.2.2.2.2.2.2.2.2.2.2.1) (h.2.2.2.2.2.2.2.2.2.2.2.2.1) (h.2.2.2.2.2.2.2.2.2.2.2.2.2)
theorem os1 {a b c d:Nat} (h:a+d <= c) (k:b < 2 * d+2+a) (w:c+d < b):a+b=c+c+1:=have k:b < a+d+d+2:=Nat.lt_of_lt_of_le k (Nat.le_of_eq ((Nat.add_comm (2 * d+2) a).trans (congrArg (·+2) ((congrArg (a+·) (Nat.two_mul d)).trans (Nat.add_assoc a d d).symm))));have e:c=a+d:=Nat.le_antisymm (Nat.le_of_add_le_add_right (b:=d+1) (Nat.le_trans w (Nat.le_of_lt_succ k))) h;e▸(congrArg (a+·) (Nat.le_antisymm (Nat.le_of_lt_succ k) (e▸w))).trans (congrArg (·+1) ((congrArg (a+·) (Nat.add_comm (a+d) d)).trans (Nat.add_assoc a d (a+d)).symm))
theorem os4 {s a b:Nat} (h:b < a):s <= s+a - 1 - b:=Nat.le_sub_of_add_le (Nat.le_sub_of_add_le (Nat.add_le_add_left h s))
theorem os5 {a b c d:Nat} (h:c <= b+d) (_:b < c) (w:2 * d+a <= c):a <= b:=Nat.le_of_add_le_add_right (Nat.le_trans (Nat.add_comm a d▸Nat.add_le_add_right (Nat.le_mul_of_pos_left d Nat.two_pos) a) (Nat.le_trans w h))
theorem os6 {a b c d:Nat} (h:c <= b+d) (k:b < c) (w:2 * d <= 0):a <= b:=absurd k (Nat.not_lt.mpr (Nat.le_trans h (Nat.add_le_add_left (Nat.le_trans (Nat.le_mul_of_pos_left d Nat.two_pos) w) b)))
theorem os7 {a b c d:Nat} (h:2 * c+d <= b) (k:a < d+c):a < b:=Nat.lt_of_lt_of_le k (Nat.le_trans (Nat.add_comm d c▸Nat.add_le_add_right (Nat.le_mul_of_pos_left c Nat.two_pos) d) h)
theorem os8 {a b c d:Nat} (h:2 * c <= 0) (k:d <= a /\ a < d+c):a < b:=absurd k.2 (Nat.not_lt.mpr (Nat.le_trans (Nat.add_le_add_left (Nat.le_trans (Nat.le_mul_of_pos_left c Nat.two_pos) h) d) k.1))
theorem os9 {s a b:Nat} (h:s <= b) (h2:b < a):s+a - 1 - b < a:=Nat.lt_of_le_of_lt (Nat.sub_le_of_le_add (Nat.sub_le_of_le_add (Nat.le_trans (Nat.add_le_add_right h a) (Nat.le_of_eq (by rw [Nat.add_right_comm,Nat.sub_add_cancel (Nat.zero_lt_of_lt h2),Nat.add_comm]))))) (Nat.sub_lt (Nat.zero_lt_of_lt h2) Nat.one_pos)
theorem Alc {a c:Nat}:a+1+20 * c+100 <= a+20 * (c+1)+100:=Nat.add_le_add_right (Nat.le_trans (Nat.le_of_eq (Nat.add_right_comm _ _ _)) (Nat.add_le_add_left (by decide:1 <= 20) (a+20 * c))) 100
theorem Ah4 {a b:Nat} (h:0 < a):0+a - 1 - b < a:=(Nat.zero_add a).symm▸Nat.lt_of_le_of_lt (Nat.sub_le _ _) (Nat.sub_lt h Nat.one_pos)
theorem Ah5 {a b:Nat} (h:a <= b):a <= (a+b) / 2:=(Nat.le_div_iff_mul_le Nat.two_pos).mpr (Nat.mul_two a▸Nat.add_le_add_left h a)
theorem Ah6 {a b:Nat} (h:a < b):(a+b) / 2 < b:=(Nat.div_lt_iff_lt_mul Nat.two_pos).mpr (Nat.mul_two b▸Nat.add_lt_add_right h b)
theorem Aht {a b c k m n:Nat} (h:a+b+n < c) (w:k+m <= n):a+k+b+m < c:=Nat.lt_of_le_of_lt (Nat.le_trans (Nat.le_of_eq ((congrArg (·+m) (Nat.add_right_comm a k b)).trans (Nat.add_assoc _ k m))) (Nat.add_le_add_left w (a+b))) h
theorem Ahu {a m n c:Nat} (h:a+n < c) (w:m <= n):a+m < c:=Nat.lt_of_le_of_lt (Nat.add_le_add_left w a) h
theorem Ahv {a:Nat}:-(1073741824:Int) <= a:=Int.le_trans (by decide:-(1073741824:Int) <= 0) (Int.natCast_nonneg a)
theorem o1{a b:Nat}(h0:a<b+1)(h1:¬(a<b)):a=b:=Nat.le_antisymm (Nat.le_of_lt_succ h0) (Nat.not_lt.mp h1)
theorem o2{a b c:Nat}(h0:a+5*b+150<c):a+5*b+147<c:=Ahu h0 (by decide)
theorem o3{a b c:Nat}(h0:a+20*b+100<c):a+20*b+90<c:=Nat.lt_of_le_of_lt (Nat.add_le_add_left (by decide) _) h0
theorem o4{a b c:Nat}(h0:a+5*(b+1)+150<c):a+5*b+150<c:=Nat.lt_of_le_of_lt (Nat.add_le_add_right (Nat.add_le_add_left (Nat.mul_le_mul_left 5 (Nat.le_succ b)) a) 150) h0
theorem o5{a b c:Nat}(h0:a+20*(b+1)+100<c):a+1+20*b+100<c:=Nat.lt_of_le_of_lt Alc h0
theorem o6{x0:Int}(h0:(0:Int)≤x0)(h1:x0≤(1000:Int)):(-(9223372036854775808:Int))≤x0∧x0<(9223372036854775808:Int):=⟨Int.le_trans (by decide) h0,Int.lt_of_le_of_lt h1 (by decide)⟩
theorem o7{x0:Int}(_:(0:Int)≤x0)(_:x0≤(1000:Int)):x0≤(16777216:Int):=by lia
theorem o8{x0:Int}(_:(0:Int)≤x0∧x0≤(1000:Int)):(Int.toNat x0)≤16777216:=by lia
theorem o9{x0:Int}(h0:¬(x0=(0:Int)∨1073741824≤(Int.natAbs x0))):(Int.natAbs x0)<1073741824:=Nat.not_le.mp fun z=>h0 (.inr z)
theorem o10{a b:Nat}(h0:a+100<b):a+64<b:=Ahu h0 (by decide)
theorem o11{a b:Nat}(h0:a+100<b):a+1+6<b:=Ahu (m:=7) h0 (by decide)
theorem o12{a b:Nat}(h0:a+100<b):a+1<b:=Nat.lt_of_le_of_lt (Nat.add_le_add_left (by decide) a) h0
theorem o13{a b:Nat}(h0:a+10<b):a+6<b:=Ahu h0 (by decide)
theorem o14{a b c:Nat}(h0:a+20+(c+1)<b):a<b:=Nat.lt_trans (Nat.lt_of_lt_of_le (Nat.lt_add_of_pos_right (by decide)) (Nat.le_add_right _ _)) h0
theorem o15{a b c:Nat}(h0:a+20+(c+1)<b):a+1+10<b:=Nat.lt_of_le_of_lt (Nat.le_trans (Nat.add_le_add_left (by decide:11 <= 20) a) (Nat.le_add_right _ _)) h0
theorem o16{a b c:Nat}(h0:a+20+(b+1)<c):a+1+20+b<c:=Nat.lt_of_le_of_lt (Nat.le_of_eq (Nat.add_right_comm (a+20) 1 b)) h0
theorem o17{a b:Nat}(h0:a+100<b):a+20+6<b:=Nat.lt_of_le_of_lt (Nat.add_le_add_left (by decide:26 <= 100) a) h0
theorem o18{a:Nat}{x0:Int}(h0:(0:Int)≤x0)(h1:x0<(a:Int)):(Int.toNat x0)<a:=(Int.toNat_lt h0).mpr h1
theorem o19{a:Nat}{x0:Int}(_:(0:Int)≤x0):(-(a:Int))≤x0:=by lia
theorem o20{x0:Int}(h0:¬((0:Int)≤x0)):x0<(0:Int):=Int.not_le.mp h0
theorem o21{a:Nat}{x0:Int}(h0:(-(a:Int))≤x0)(h1:¬((0:Int)≤x0)):(Int.toNat (x0+(a:Int)))<a:=(Int.toNat_lt (by have:=Int.add_le_add_right h0 a;rwa [Int.add_left_neg] at this)).mpr (by have:=Int.add_lt_add_right (Int.not_le.mp h1) a;rwa [Int.zero_add] at this)
theorem o22{a:Nat}{x0:Int}(_:(-(a:Int))≤x0)(_:¬((0:Int)≤x0)):x0<(a:Int):=by lia
theorem o23{a:Nat}{x0:Int}(h0:(0:Int)≤x0)(h1:(Int.toNat x0)<a):x0<(a:Int):=(Int.toNat_lt h0).mp h1
theorem o24{a b c d:Nat}(h0:a<c)(h1:c=b)(h2:d=b):a<b:=Nat.lt_of_lt_of_le h0 (Nat.le_of_eq h1)
theorem o25{x0 x1:Int}(h0:(-x1)≤x0)(h1:x0<x1)(h2:x0≤(100000:Int)):(Int.toNat x0)≤16777216:=Nat.le_trans (Int.toNat_le.mpr h2:_ <= 100000) (by decide)
theorem o26{a:Nat}(_:1≤a)(_:a=0):False:=by grind
theorem o27{a b c:Nat}(_:c+2≤b)(_:a≤c+1):a+1≤b:=by lia
theorem o28{a b:Nat}(_:a+2≤b):a≤b:=by lia
theorem o29{a:Nat}(h0:a≤20):a<30:=Nat.lt_of_le_of_lt h0 (by decide:20 < 30)
theorem o30{a:Nat}(h0:a≤1000):a≤16777216:=Nat.le_of_lt (Nat.lt_of_le_of_lt h0 (by decide:1000 < 16777216))
theorem o31{a b:Nat}(h0:a<b)(h1:a=b):False:=Nat.lt_irrefl _ (Nat.lt_of_lt_of_le h0 (Nat.le_of_eq h1.symm))
theorem o32{a b c:Nat}(h0:a+5*(b+1)+147<c):a+1+5*b+150<c:=Aht (b:=5 * b) (n:=152) h0 (by decide)
theorem o33{a b c:Nat}(h0:a+20*(b+1)+90<c):a+3+20*b+100<c:=Aht (b:=20 * b) (n:=110) h0 (by decide)
theorem o34{a b c:Nat}(h0:a+c=b):a=(min a b):=(Nat.min_eq_left (h0▸Nat.le_add_right _ _)).symm
theorem o35{a b c d:Nat}(h0:a+c=d)(h1:¬(b<a)):a≤b:=Nat.not_lt.mp h1
theorem o36{a b c:Nat}(h0:a+5*(c+1)+147<b):a<b:=Nat.lt_of_le_of_lt (Nat.le_trans (Nat.le_add_right _ _) (Nat.le_add_right _ _)) h0
theorem o37{a:Nat}{x0:Int}(h0:a<(Int.toNat x0)):(0:Int)<(((Int.toNat x0):Nat):Int)-(a:Int):=Int.sub_pos_of_lt (Int.ofNat_lt.mpr h0)
theorem o38{a:Nat}:((a+1:Nat):Int)=(a:Int)+(1:Int):=rfl
theorem o39{a:Nat}{x0:Int}:(((Int.toNat x0):Nat):Int)-((a+1:Nat):Int)=(((Int.toNat x0):Nat):Int)-(a:Int)-(1:Int):=(Int.sub_sub (x0.toNat:Int) a 1).symm
theorem o40{a b c:Nat}(h0:c=a)(h1:c≤b):a≤b:=Nat.le_trans (Nat.le_of_eq h0.symm) h1
theorem o41{a:Nat}{x0:Int}(h0:x0≤(a:Int)):(((Int.toNat x0):Nat):Int)-(a:Int)≤(0:Int):=Int.sub_nonpos_of_le (Int.ofNat_le.mpr (Int.toNat_le.mpr h0))
theorem o42{a b:Nat}(h0:0<b)(h1:a=0):a<b:=Nat.lt_of_le_of_lt (Nat.le_of_eq h1) h0
theorem o43{a:Nat}:2*(a/2)≤a:=Nat.mul_div_le a 2
theorem o44{a:Nat}:a<2*(a/2)+2:=Nat.lt_mul_div_succ a Nat.two_pos
theorem o45{a b c d:Nat}(h1:a+d≤c)(h2:b-a<2*d+2)(h3:c<b-d):a+b-1-c=c:=Nat.sub_eq_of_eq_add (Nat.sub_eq_of_eq_add (os1 h1 (Nat.not_le.mp fun w=>Nat.not_le.mpr h2 (Nat.le_sub_of_add_le w)) (Nat.add_lt_of_lt_sub h3)))
theorem o46{a b c d:Nat}(h1:2*c≤b-d)(h2:d≤a∧a<d+c):a<b:=(Nat.le_total d b).elim (fun h=>os7 (Nat.add_le_of_le_sub h h1) h2.2) fun h=>os8 (Nat.sub_eq_zero_of_le h▸h1) h2
theorem o47{a b c d:Nat}(h1:c-d≤b∧b<c)(h2:2*d≤c-a):a≤b:=(Nat.le_total a c).elim (fun h=>os5 (Nat.le_add_of_sub_le h1.1) h1.2 (Nat.add_le_of_le_sub h h2)) fun h=>os6 (Nat.le_add_of_sub_le h1.1) h1.2 (Nat.sub_eq_zero_of_le h▸h2)
theorem o48{a b:Nat}:a≤a+(b+1):=Nat.le_add_right _ _
theorem o49{a b:Nat}(h1:1≤b)(h2:a<b)(h3:¬(a=b-1)):a<b-1:=Nat.lt_of_le_of_ne (Nat.le_sub_one_of_lt h2) h3
theorem o50{a:Nat}(h0:1≤a):a-1<a:=Nat.sub_lt (Nat.lt_of_lt_of_le (by decide:0 < 1) h0) Nat.one_pos
theorem o51{a b:Nat}(h0:a<b+1)(h1:¬(a=b)):a<b:=Nat.lt_of_le_of_ne (Nat.le_of_lt_succ h0) h1
theorem o52{a:Nat}(h0:1≤a):1≤a+1:=Nat.le_add_left _ _
theorem o53{a b c d:Nat}(h1:a-(b+1)≤d∧d<a)(h2:d<c)(h3:c<a):a-(b+1)≤c∧c<a:=⟨Nat.le_trans h1.1 (Nat.le_of_lt h2),h3⟩
theorem o54{a b c d:Nat}(h1:a-(b+1)≤c∧c<a)(h2:b+1≤a)(h3:c<d)(h4:d<a):a≤a-(b+1)+a-1-c+b+1:=Nat.le_trans (Nat.le_of_eq (Nat.sub_add_cancel h2).symm) (Nat.add_le_add_right (os4 h1.2) (b+1))
theorem o55{a b c d:Nat}(h1:a-(b+1)≤c∧c<a)(h2:c<d)(h3:d<a):a-(b+1)+a-1-c<a:=os9 h1.1 h1.2
theorem o56{a b c:Nat}(h1:b+1≤a)(h2:c<a):a≤a-(b+1)+a-1-c+b+1:=Nat.le_trans (Nat.le_of_eq (Nat.sub_add_cancel h1).symm) (Nat.add_le_add_right (os4 h2) (b+1))
theorem o57{a b c d:Nat}(h1:a-(b+1)≤d∧d<a)(h2:d<c)(h3:c<a):a-(b+1)+a-1-c<a:=os9 (Nat.le_trans h1.1 (Nat.le_of_lt h2)) h3
theorem o58{a b c d:Nat}(h1:c+1≤b)(h2:a<d)(h3:d<b)(h4:¬(b-(c+1)≤a∧a<b)):a<b-(c+1)+b-1-d:=Nat.lt_of_lt_of_le (Nat.not_le.mp fun w=>h4 ⟨w,Nat.lt_trans h2 h3⟩) (os4 h3)
theorem o59{a b c:Nat}(h0:a-(b+1)≤c∧c<a)(h1:c<a):a-(b+1)+a-1-c<a:=os9 h0.1 h1
theorem o60{a b:Nat}(h1:a<b)(h2:¬(a=b-1)):a<b-1:=Nat.lt_of_le_of_ne (Nat.le_sub_one_of_lt h1) h2
theorem o61{a b:Nat}(h1:b<a):a-1<a:=Nat.sub_lt (Nat.zero_lt_of_lt h1) Nat.one_pos
theorem o62{a b c:Nat}(h0:c+1≤a+0+1)(h1:c+1≤b+0+1)(h2:a<c+1)(h3:b<c+1):a=b:=(Nat.le_antisymm (Nat.le_of_lt_succ h2) (Nat.le_of_succ_le_succ h0)).trans (Nat.le_antisymm (Nat.le_of_succ_le_succ h1) (Nat.le_of_lt_succ h3))
theorem o63{a b c d:Nat}(h0:a+(c+1)≤d)(h1:b=d):a≤b:=Nat.le_trans (Nat.le_trans (Nat.le_add_right _ _) h0) (Nat.le_of_eq h1.symm)
theorem o64{a b:Nat}:¬(a-(b+1)≤a∧a<a):=fun z=>Nat.lt_irrefl _ z.2
theorem o65{a b c d:Nat}(h0:a+(b+1)≤c)(h1:d=c):a+1+b≤c:=Nat.le_trans (Nat.le_of_eq (Nat.add_right_comm a 1 b)) h0
theorem o66{a:Nat}:0+1≤a+1:=Nat.le_trans (by decide:(0+1) <= 1) (Nat.le_add_left _ _)
theorem o67{a b:Nat}(h0:a+1≤b):a+1+1≤b+1:=Nat.lt_of_le_of_lt h0 (Nat.lt_succ_self _)
theorem o68{a:Nat}:a+1≤a+0+1:=Nat.le_refl _
theorem o69{a:Nat}:a<a+1:=Nat.lt_succ_self _
theorem o70{a b c d:Nat}(h0:a+1≤c+(b+1)+1)(h1:a+1≤d+(b+1)+1)(h2:b+1≤a)(h3:d<a+1)(h4:c=a):a≤a-1+b+1:=Nat.le_trans (Nat.le_of_eq (Nat.sub_add_cancel (Nat.zero_lt_of_lt h2)).symm) (Nat.succ_le_succ (Nat.le_add_right _ _))
theorem o71{a b c:Nat}(h0:a+1≤b+(c+1)+1)(h1:c+1≤a)(h2:b=a):a-1<a:=Nat.sub_lt (Nat.lt_of_le_of_lt (Nat.zero_le _) h1) Nat.one_pos
theorem o72{a b c d:Nat}(h0:a+1≤b+(c+1)+1)(h1:d=a):a≤b+c+1:=Nat.le_of_succ_le_succ h0
theorem o73{a b c:Nat}(h0:a<b+1)(h1:c=b)(h2:¬(a=b)):a<b:=Nat.lt_of_le_of_ne (Nat.le_of_lt_succ h0) h2
theorem o74{a b c:Nat}(_:a+1≤b+(c+1)+1):a≤b+c+1:=by grind
theorem o75{a b c:Nat}(h0:a<b+1)(h1:c<b+1)(h2:¬(a=b))(h3:¬(c=b)):a<b:=Nat.lt_of_le_of_ne (Nat.le_of_lt_succ h0) h2
theorem o76{a b:Nat}(h0:a<b):0≤a∧a<b:=⟨Nat.zero_le _,h0⟩
theorem o77{a b c:Nat}(h0:a<c)(h1:c<b):0≤a∧a<b:=⟨Nat.zero_le _,Nat.lt_trans h0 h1⟩
theorem o78{a b c:Nat}(h1:c<b)(h2:b<a):0+a-1-b<0+a-1-c:=(Nat.zero_add a).symm▸Nat.sub_lt_sub_left (Nat.lt_sub_of_add_lt (Nat.lt_of_le_of_lt h1 h2)) h1
theorem o79{a b c:Nat}(h0:b<c)(h1:c<a):0+a-1-b<a:=Ah4 (Nat.zero_lt_of_lt h1)
theorem o80{a b:Nat}(h0:1≤b)(h1:b≤a):0<a:=Nat.lt_of_lt_of_le (Nat.lt_of_lt_of_le (by decide:0 < 1) h0) h1
theorem o81{a b:Nat}(h0:b+1≤a)(h1:1≤b):0<a:=Nat.lt_of_le_of_lt (Nat.zero_le _) h0
theorem o82{a b:Nat}(h1:a+1≤b):a+1+(b-(a+1))≤b:=Nat.le_of_eq (Nat.add_sub_cancel' h1)
theorem o83{a:Nat}(h0:1≤a):0+1≤a+1:=Nat.le_trans (by decide:(0+1) <= 1) (Nat.le_add_left _ _)
theorem o84 {a0 a1:Nat} (h0:(a1+1) <= a0) (h1:a1 > 0):1 <= a0:=Nat.le_trans (Nat.le_add_left _ _) h0
theorem o85{a b c:Nat}(h1:c+1≤b)(h2:a≤c+1+(b-(c+1))):a≤b:=Nat.add_sub_cancel' h1▸h2
theorem o86 {a0 a1:Nat} (h0:(a1+1) <= a0) (h1:¬ (a1 > 0)):1 <= a0:=Nat.le_trans (Nat.le_add_left _ _) h0
theorem o87{a b:Nat}(h0:a<1)(h1:b<a):False:=Nat.not_lt_zero _ (Nat.lt_of_lt_of_le h1 (Nat.le_of_lt_succ h0))
theorem o88 {a0 a1:Nat} (h0:a0 < a1) (h1:a1 > 1) (h2:¬ (a0=(a1 - 1))):a0 < (a1 - 1):=Nat.lt_of_le_of_ne (Nat.le_sub_one_of_lt h0) h2
theorem o89 {a0:Nat} (h0:a0 > 1):(a0 - 1) < a0:=Nat.sub_lt (Nat.lt_trans (by decide:0 < 1) h0) Nat.one_pos
theorem o90{a:Nat}(h0:¬(a=0)):0<a:=Nat.lt_of_le_of_ne (Nat.zero_le _) (fun e=>h0 e.symm)
theorem o91{a b:Nat}(h0:a=b):¬(0≤a∧a<b):=fun z=>Nat.lt_irrefl _ (Nat.lt_of_lt_of_le z.2 (Nat.le_of_eq h0.symm))
theorem o92{a b c:Nat}(h0:a<c)(h1:c=b):0≤a∧a<b:=⟨Nat.zero_le _,Nat.lt_of_lt_of_le h0 (Nat.le_of_eq h1)⟩
theorem o93{a b c:Nat}(h0:b<c)(h1:c=a):0+a-1-b<a:=Ah4 (h1▸Nat.zero_lt_of_lt h0)
theorem o94{a b:Nat}(h0:a<b+1)(h1:¬(a=b)):0≤a∧a<b:=⟨Nat.zero_le _,Nat.lt_of_le_of_ne (Nat.le_of_lt_succ h0) h1⟩
theorem o95{a b c:Nat}(h0:c<b+1)(h1:a<c):0≤a∧a<b:=⟨Nat.zero_le _,Nat.lt_of_lt_of_le h1 (Nat.le_of_lt_succ h0)⟩
theorem o96{a b c:Nat}(h1:c<a+1)(h2:b<c):0+a-1-b<a:=(Nat.zero_add a).symm▸Nat.lt_of_le_of_lt (Nat.sub_le _ _) (Nat.sub_lt (Nat.zero_lt_of_lt (Nat.lt_of_lt_of_le h2 (Nat.le_of_lt_succ h1))) Nat.one_pos)
theorem o97{a b c:Nat}(h0:b<a+1)(h1:c<b):0+a-1-b<a:=Ah4 (Nat.lt_of_lt_of_le (Nat.zero_lt_of_lt h1) (Nat.le_of_lt_succ h0))
theorem o98 {a0:Nat} (h0:1 <= a0) (h1:¬ (a0 > 1)):a0=1:=Nat.le_antisymm (Nat.not_lt.mp h1) h0
theorem o99{a:Nat}(h0:1<a):1+1≤a:=h0
theorem Ald{a b:Nat}(h0:b<1+1)(h1:a<b):a=0∧b=1:=⟨Nat.lt_one_iff.mp (Nat.lt_of_lt_of_le h1 (Nat.le_of_lt_succ h0)),Nat.le_antisymm (Nat.le_of_lt_succ h0) (Nat.zero_lt_of_lt h1)⟩
theorem Ale{a b c:Nat}(h0:c≤a+0)(h1:a≤c)(h2:c≤b):a≤b:=Nat.le_trans h1 h2
theorem Alf{a b c:Nat}(h0:a≤c+0)(h1:c≤a)(h2:c≤b):a≤b:=Nat.le_trans (Nat.le_trans h0 (Nat.le_refl _)) h2
theorem Alg {a0 a1 a2:Nat} (h0:a0 <= a2) (h1:a2 <= a1) (h2:a0 ≥ a2):a0 <= a1:=Nat.le_trans h0 h1
theorem Alh {a0 a1 a2:Nat} (h0:a2 <= a0) (h1:a2 <= a1) (h2:a2 ≥ a0):a0 <= a1:=Nat.le_trans h2 h1
theorem Ali {a0 a1:Nat} (h0:¬ (a0 ≥ a1)):a0 <= ((a0+a1) / 2):=Ah5 (Nat.le_of_not_le h0)
theorem Alj {a0 a1 a2:Nat} (h0:a1 <= a2) (h1:¬ (a0 ≥ a1)):((a0+a1) / 2) <= a2:=Nat.le_trans (Nat.le_of_lt (Ah6 (Nat.not_le.mp h1))) h0
theorem Alk{a b c:Nat}(h0:b≤a+(c+1)):(a+b)/2≤a+c:=Nat.le_of_lt_succ ((Nat.div_lt_iff_lt_mul Nat.two_pos).mpr (Nat.mul_two (a+c+1)▸Nat.add_lt_add_of_lt_of_le (Nat.lt_succ_of_le (Nat.le_add_right a c)) h0))
theorem Alm{a b c:Nat}(h0:(a+b)/2≤c)(h1:¬(c=(a+b)/2)):(a+b)/2<c:=Nat.lt_of_le_of_ne h0 (fun e=>h1 e.symm)
theorem Aln {a0 a1:Nat} (h0:¬ (a0 ≥ a1)):(((a0+a1) / 2)+1) <= a1:=Ah6 (Nat.not_le.mp h0)
theorem Alo{a b c:Nat}(h0:a≤b+(c+1)):a≤(b+a)/2+1+c:=(Nat.le_total b a).elim (fun h=>Nat.le_trans h0 (Nat.le_trans (Nat.add_le_add_right (Ah5 h) (c+1)) (Nat.le_of_eq (Nat.add_right_comm _ c 1)))) fun h=>Nat.le_trans (Nat.add_comm a b▸Ah5 h) (Nat.le_trans (Nat.le_succ _) (Nat.le_add_right _ _))
theorem Alp{a b c:Nat}(h0:a<(b+c)/2+1)(h1:¬(a=(b+c)/2)):a<(b+c)/2:=Nat.lt_of_le_of_ne (Nat.le_of_lt_succ h0) h1
theorem Alq {a0 a1 a2:Nat} (h0:a1 <= a2) (h1:¬ (a0 ≥ a1)):((a0+a1) / 2) < a2:=Nat.lt_of_lt_of_le (Ah6 (Nat.not_le.mp h1)) h0
theorem Alr{a:Nat}:a≤0+a:=Nat.le_add_left _ _
theorem Als{a:Nat}(h0:a<0):False:=Nat.lt_irrefl _ (Nat.lt_of_lt_of_le h0 (Nat.zero_le _))
theorem Alt{a b:Nat}(h0:a<b)(h1:b≤a):False:=Nat.lt_irrefl _ (Nat.lt_of_lt_of_le h0 h1)
theorem Alu{a b c:Nat}(h0:a+(b+1)=c):a+1+b=c:=(Nat.add_right_comm a 1 b).trans h0
theorem Alv{a b c:Nat}(h0:a+(c+1)=b):a<b:=h0▸Nat.lt_add_of_pos_right (Nat.succ_pos c)
theorem Ajm{a b:Nat}(h0:b≤a):a-b≤a:=Nat.sub_le _ _
theorem Alw{a b:Nat}(h1:b≤a):a-(a-b)=b:=Nat.sub_sub_self h1
theorem Ajn{a b c:Nat}(h0:c<a)(h1:c=b):¬(a=b):=Nat.ne_of_gt (Nat.lt_of_le_of_lt (Nat.le_of_eq h1.symm) h0)
theorem Alx{a b c d:Nat}(h0:b<c+1)(h1:d<b)(h2:d=a):a<b∧b≤c:=⟨Nat.lt_of_le_of_lt (Nat.le_of_eq h2.symm) h1,Nat.le_of_lt_succ h0⟩
theorem Ajo{a b c:Nat}(h1:c<b)(h2:c=a):a≤b-1:=h2▸Nat.le_sub_one_of_lt h1
theorem Ah7{a b c:Nat}(h1:a<b+1)(h2:c<a):a-1<b:=Nat.lt_of_lt_of_le (Nat.sub_lt (Nat.zero_lt_of_lt h2) Nat.one_pos) (Nat.le_of_lt_succ h1)
theorem Aly{a b c d:Nat}(h0:b<d)(h1:d=a):¬(a<b∧b≤c):=fun z=>Nat.lt_irrefl _ (Nat.lt_of_lt_of_le (Nat.lt_trans z.1 h0) (Nat.le_of_eq h1))
theorem Ajp{a b c:Nat}(h0:a<c)(h1:c=b):a<b:=Nat.lt_of_lt_of_le h0 (Nat.le_of_eq h1)
theorem Alz{a b c d:Nat}(h0:a<d∧d≤c)(h1:b<c+1)(h2:d<b):a<b∧b≤c:=⟨Nat.lt_trans h0.1 h2,Nat.le_of_lt_succ h1⟩
theorem Al0{a b c d:Nat}(h1:c<a∧a≤d)(h2:a<b):a-1<b-1:=Nat.sub_lt_sub_right (Nat.lt_of_le_of_lt (Nat.zero_le _) h1.1) h2
theorem Al1{a b c d:Nat}(h1:c<b∧b≤d)(h2:b<d+1)(h3:a<b)(h4:¬(c<a∧a≤d))(h5:¬(a=c))(h6:¬(b=c)):a<b-1:=Nat.lt_sub_of_add_lt (Nat.lt_of_le_of_lt (Nat.lt_of_le_of_ne (Nat.not_lt.mp fun w=>h4 ⟨w,Nat.le_trans (Nat.le_of_lt h3) h1.2⟩) h5) h1.1)
theorem Al2{a b c d:Nat}(h0:a<b+1)(h1:c<a)(h2:d≤b)(h3:¬(d<c∧c≤b))(h4:¬(d<a∧a≤b))(h5:¬(a=d)):a<b:=Nat.lt_of_lt_of_le (Nat.lt_of_le_of_ne (Nat.not_lt.mp fun w=>h4 ⟨w,Nat.le_of_lt_succ h0⟩) h5) h2
theorem Al3{a:Nat}(h0:1≤a):(max a 1)=a:=Nat.max_eq_left h0
theorem Al4{a b:Nat}(h0:(max a 1)=a)(h1:a<b):a+(b-a)=b:=Nat.add_sub_cancel' (Nat.le_of_lt h1)
theorem Ajq{a b:Nat}(h0:a≤b)(h1:¬(a<b)):a=b:=Nat.le_antisymm h0 (Nat.not_lt.mp h1)
theorem Al5{a b c:Nat}(h0:a<64)(h1:b=a)(h2:c=a):a≤16777216+1:=Nat.le_of_lt (Nat.lt_trans h0 (by decide:64 < (16777216+1)))
theorem Ajr{a:Nat}(h0:a<64):a≤16777216:=Nat.le_of_lt (Nat.lt_trans h0 (by decide:64 < 16777216))
theorem Al6{a:Nat}(h0:a<64)(h1:¬(a<2)):2≤a:=Nat.not_lt.mp h1
theorem Ajs{a b c:Nat}(h0:a+20+c<b):a+10<b:=Nat.lt_of_le_of_lt (Nat.le_trans (Nat.add_le_add_left (by decide:10 <= 20) a) (Nat.le_add_right _ _)) h0
theorem Al7{a b:Nat}(h0:b<64)(h1:b=a):a<64:=Nat.lt_of_le_of_lt (Nat.le_of_eq h1.symm) h0
theorem Al8{a b:Nat}(h0:b<64)(h1:b=a):a≤16777216:=Nat.le_of_lt (Nat.lt_trans (Nat.lt_of_le_of_lt (Nat.le_of_eq h1.symm) h0) (by decide:64 < 16777216))
theorem Al9{a b c d:Nat}(h0:a<2)(h1:b<64)(h2:c<d)(h3:d<b)(h4:b=a):False:=Nat.not_lt_zero c (Nat.lt_of_lt_of_le h2 (Nat.le_of_lt_succ (Nat.lt_of_lt_of_le h3 (Nat.le_of_lt_succ (h4▸h0)))))
theorem Ajt{a b:Nat}(h0:2≤b)(h1:a<64)(h2:a=b):0<a:=Nat.lt_of_lt_of_le (Nat.lt_of_lt_of_le (by decide:0 < 2) h0) (Nat.le_of_eq h2.symm)
theorem Ama{a b:Nat}(h0:a+100<b):a+1+1+30<b:=Nat.lt_of_le_of_lt (Nat.add_le_add_left (by decide:32 <= 100) a) h0
theorem Amc{a b c:Nat}(h0:2≤b)(h1:c<64)(h2:c=b)(h3:a=b):0<a:=Nat.lt_of_lt_of_le (Nat.lt_of_lt_of_le (by decide:0 < 2) h0) (Nat.le_of_eq h3.symm)
theorem Amd{a b c:Nat}(h0:2≤b)(h1:a<64)(h2:a=b)(h3:c=b):0<a:=Nat.lt_of_lt_of_le (Nat.lt_of_lt_of_le (by decide:0 < 2) h0) (Nat.le_of_eq h2.symm)
theorem Ame{a b:Nat}(h0:a+30<b):a+20+5<b:=Nat.lt_of_le_of_lt (Nat.add_le_add_left (by decide:25 <= 30) a) h0
theorem Amf{a b:Nat}(h0:a<64)(h1:a=b):a≤16777216:=Nat.le_of_lt (Nat.lt_trans h0 (by decide:64 < 16777216))
theorem Amg{a b:Nat}(_:b-a≤0)(_:a≤b):a=b:=by grind
theorem Amh{a b c:Nat}(_:a<b)(_:b≤c):(a+b)/2<c:=by grind
theorem Ami{a b c d:Nat}(_:(b+a)/2<d)(_:a-b≤c+1)(_:b<a):a-((b+a)/2+1)≤c:=by omega
theorem Amj{a b c:Nat}(_:(a+b)/2<c)(_:a<b):(a+b)/2+1≤b:=by grind
theorem Amk{a b c d:Nat}(_:(b+c)/2<d)(_:a<(b+c)/2+1)(_:¬(a=(b+c)/2)):a<(b+c)/2:=by lia
theorem Aml{a b c d:Nat}(_:(a+b)/2<d)(_:b-a≤c+1)(_:a<b):(a+b)/2-a≤c:=by grind
theorem Amm{a b c:Nat}(_:(a+b)/2<c)(_:a<b):a≤(a+b)/2:=by lia
theorem Amn{a b c:Nat}(_:(a+b)/2<c):(a+b)/2≤c:=by lia
theorem Amo{a b c d:Nat}(_:(a+b)/2<d)(_:(a+b)/2≤c)(_:¬(c=(a+b)/2)):(a+b)/2<c:=by lia
theorem Amp{a b:Nat}(_:a≤b)(_:¬(b=a)):a<b:=by grind
theorem Aju{a b:Nat}(_:a+1≤b):a≤b:=by grind
theorem Amq {a0 a1:Nat} (_:(a1+1) <= a0):(a0 - a1) > 0:=by lia
theorem Amr {a0 a1:Nat}:¬ (((a0 - a1) - (a0 - a1)) > 0):=by grind
theorem Ams{a b:Nat}:a<a+(b+1):=by grind
theorem Amt{a b c:Nat}(_:a<b+1+c):a<b+(c+1):=by grind
theorem Amu{a b c:Nat}(_:a<0+(c+1))(_:b≤a):a-b≤c:=by grind
theorem Ah8{a b:Nat}(h0:a≤b):a+(b-a)=b:=Nat.add_sub_of_le h0
theorem Amv{a b c:Nat}(_:c<0+(b+1))(_:¬(c≤a)):a+(b+1)-c≤b:=by omega
theorem Amw{a b c:Nat}(_:a<0+(c+1)):a+(b+(c+1)-a)=c+1+b:=by lia
theorem Amx{a b:Nat}(_:a≤b):13+a≤b+13:=by grind
theorem Amy{a b c:Nat}(_:c<b)(_:a≤c):a≤b:=by grind
theorem Amz{a b:Nat}(_:a+1≤b)(_:b<a+1):False:=by lia
theorem Ajv{a b c:Nat}(_:a≤b)(_:b≤c):a+(b-a)≤c:=by grind
theorem Am0 {a0 a1 a2:Nat} (_:(a0+a1) <= a2) (_:a1 > 0):((a0+1)+(a1 - 1)) <= a2:=by lia
theorem Am1{a b c:Nat}{x0 x1:Int}(_:a-b<c+1)(_:b<a)(_:¬(b=a))(_:¬(x0=x1)):a-(b+1)<c:=by grind
theorem Ajw{a b:Nat}(_:a≤b)(_:¬(b=a)):a+1≤b:=by grind
theorem Am2{a b:Nat}(_:a≤b):(min a b)=a:=by grind
theorem Ajx{a b c:Nat}(_:c=a)(_:¬(b<a)):a≤b:=by lia
theorem Am3{a b c:Nat}(_:c=b)(_:¬(a<b))(_:¬(a=b)):a-b=a-b-1+1:=by lia
theorem Am4{a b c:Nat}(_:c=a)(_:¬(b<a))(_:¬(b=a)):a+(b-a-1)=b-1:=by lia
theorem Am5{a b:Nat}(_:¬(a<b)):¬(a+1<b):=by lia
theorem Am6{a b:Nat}(_:¬(a<b)):¬(a+1=b):=by lia
theorem Am7{a b c:Nat}(_:a<b)(_:a<c)(_:¬(b<c))(_:¬(b=c)):a<b-1:=by lia
theorem Am8{a b c:Nat}(_:c<a)(_:¬(c<b)):¬(a<b):=by lia
theorem Am9{a b c:Nat}(_:c<a)(_:¬(c<b)):¬(a=b):=by grind
theorem Ana{a b c:Nat}(_:a<b)(_:¬(a<c))(_:¬(a=c)):a-1<b-1:=by grind
theorem Anb{a b c:Nat}:a<a+(b-c)+1:=by grind
theorem Anc{a b c d a4:Nat}(_:c=d+1)(_:b≤a4-a)(_:a≤a4)(_:a4≤d):a+b<c:=by grind
theorem Ane{a b c d:Nat}(_:a≤b+(c-d))(_:b≤a)(_:d≤c):a-b<c+1-d:=by grind
theorem Ah9{a b c d:Nat}(_:a≤b+(c-d))(_:b≤a):a-b≤c-d:=by grind
theorem Anf{a b:Nat}(_:b≤a):a=b+(a-b):=by grind
theorem Ajy{a b c d a4:Nat}(_:a<d-a4)(_:d≤a4+(b-c))(_:a4≤d):a≤b-c:=by grind
theorem Ang{a b c:Nat}(_:b<c-a)(_:a≤c):a+b<c:=by grind
theorem Ajz{a b c:Nat}(_:a<b+1-c)(_:c≤b):a≤b-c:=by grind
theorem Anh{a b c d a4:Nat}(_:b<d+1-a4)(_:a4≤d)(_:¬(c≤a+(d-a4))):a+b<c:=by grind
theorem Ani{a b c d:Nat}(_:¬(d≤a+(b-c))):a+(b-c)+1≤d:=by lia
theorem Anj{a b c:Nat}(_:a<b+(c+1)):a<b+1+c:=by lia
theorem Ank{a b c:Nat}(_:c=a)(_:a≤b):a<b+1:=by grind
theorem Anl{a b:Nat}(_:a≤b+13):a<0+(b+15):=by lia
theorem Anm{a b c d:Nat}(_:a+c≤b)(_:a=d):a<b+1:=by grind
theorem Ann{a b c:Nat}(_:a+(c+1)≤b):a≤b:=by lia
theorem Ano{a b c:Nat}(_:a+(b+1)≤c):a+1+b≤c:=by lia
theorem Anp{a b:Nat}(_:a≤b):0+a≤b:=by grind
theorem Anq{a b:Nat}(_:a≤b)(_:¬(a=b)):a<b:=by lia
theorem Anr{a b c:Nat}(_:c+1≤b)(_:a≤c):a≤b:=by lia
theorem Ans{a b c:Nat}(_:b<64)(_:c=a+1)(_:a=b):a+1≤16777216:=by lia
theorem Ant {a0 a1:Nat} (_:((a0+1) * 5) ≥ (7 * 3)) (_:(a0 * 5) < (7 * 3)) (_:a1=(a0+1)):(a0+1)=5:=by lia
theorem Anu {a0 a1:Nat} (_:((a0+1) * 5) ≥ (31 * 3)) (_:(a0 * 5) < (31 * 3)) (_:a1=(a0+1)):(a0+1)=19:=by grind
theorem Anv {a0 a1 a2:Nat} (_:((a0+1) * 5) ≥ (127 * 3)) (_:a1 < 64) (_:a2=(a0+1)) (_:a0=a1):False:=by lia
theorem Anw {a0:Nat} (_:a0 <= 127):¬ ((a0+1) > 16777216):=by lia
theorem Anx{a b c d:Nat}(_:b<64)(_:c=a+1)(_:a=b)(_:d=c):a+1≤16777216:=by grind
theorem Any{a b c d:Nat}(_:c<d)(_:a≤b)(_:¬(a=b)):a<b:=by grind
theorem Anz{a b:Nat}(_:a=b+1):0<a:=by lia
theorem An0{a b:Nat}(_:a=b+1):a-1=b:=by grind
theorem An1{a b:Nat}(_:b-a=0)(_:a≤b):a=b:=by grind
theorem An2{a b c:Nat}(h0:b-a=c+1)(h1:a≤b):a<b:=Nat.lt_of_sub_eq_succ h0
theorem An3{a b c:Nat}(_:b<c)(_:c≤64)(_:a≤b):a<64:=by lia
theorem An4{a b c:Nat}(h0:a-b=c+1)(h1:b<a):a-(b+1)=c:=congrArg Nat.pred h0
theorem An5{a b:Nat}(_:a+10<b):a+1+1+1<b:=by lia
theorem An6{a:Nat}:a-0=a-0:=by grind
theorem An7{a b c:Nat}(_:a=b)(_:c≤64)(_:b≤c):a≤16777216:=by lia
theorem Afi{a b:Nat}(h0:¬(b<a)):a≤b:=Nat.not_lt.mp h0
theorem An8{a b c d:Nat}(_:c=a)(_:d=c)(_:¬(b<d)):a≤b:=by lia
theorem An9{a b:Nat}(_:a+100<b):a+10<b:=by lia
theorem Aia{a b c:Nat}(h0:b<a)(h1:c=a+1-b):a+1-(b+1)<c:=h1▸Nat.sub_lt_sub_left (Nat.lt_succ_of_lt h0) (Nat.lt_succ_self _)
theorem Aoa{a b c d:Nat}(_:c<b)(_:a<c)(_:c=a+d):a<b:=by lia
theorem Aj0{a b:Nat}(h0:a-b=0)(h1:¬(a<b)):a=b:=Nat.le_antisymm (Nat.le_of_sub_eq_zero h0) (Nat.not_lt.mp h1)
theorem Aob{a b c:Nat}(h0:a=c)(h1:b=c):a=b:=Nat.le_antisymm (Nat.le_trans (Nat.le_of_eq h0) (Nat.le_of_eq h1.symm)) (Nat.le_trans (Nat.le_of_eq h1) (Nat.le_of_eq h0.symm))
theorem Aoc{a b c:Nat}(h0:a+5*b+150<c):a+1+5*b+147<c:=Aht h0 (by decide)
theorem Aod{a b c:Nat}(h0:a+20*b+100<c):a+1+20*b+90<c:=Aht h0 (by decide)
theorem Aoe{a b:Nat}:a-b≤a:=Nat.sub_le _ _
theorem Aof{a b:Nat}:(min a b)≤b:=Nat.min_le_right _ _
theorem Aog{x0:Int}(h0:¬((0:Int)≤x0)):1≤(Int.natAbs x0):=Int.natAbs_pos.mpr fun e=>h0 (Int.le_of_eq e.symm)
theorem Aoh{x0:Int}(h0:¬((0:Int)≤x0)):(-(((Int.natAbs x0):Nat):Int))=x0:=Int.neg_eq_comm.mp (Int.ofNat_natAbs_of_nonpos (Int.le_of_lt (Int.not_le.mp h0))).symm
theorem Aoi{a b c:Nat}(h0:a+20*c+100<b):a+100<b:=Nat.lt_of_le_of_lt (Nat.add_le_add_right (Nat.le_add_right _ _) _) h0
theorem Aj1{a b:Nat}:a+1+b=a+(b+1):=by grind
theorem Aar{a b:Nat}(h0:(a:Int)<(b:Int)):a<b:=Int.ofNat_lt.mp h0
theorem Aoj{a b:Nat}:a+(b+1)=a+1+b:=(Nat.add_right_comm a 1 b).symm
theorem Aok{a:Nat}(h0:a≤63):a≤16777216:=Nat.le_of_lt (Nat.lt_of_le_of_lt h0 (by decide:63 < 16777216))
theorem Aas{a:Nat}:(0:Int)≤(a:Int):=Int.natCast_nonneg _
theorem Ahw{a b:Nat}(h0:a<b):(a:Int)<(b:Int):=Int.ofNat_lt.mpr h0
theorem Aj2{a b:Nat}(h0:0=b-a)(h1:a≤b):a=b:=Nat.le_antisymm h1 (Nat.le_of_sub_eq_zero h0.symm)
theorem Aj3{a b c:Nat}(h0:a=c)(h1:¬(b<a)):a≤b:=Nat.not_lt.mp h1
theorem Aj4{a b c:Nat}(h0:a-c=0)(h1:c=b)(h2:¬(a<c)):a=b:=h1▸Nat.le_antisymm (Nat.le_of_sub_eq_zero h0) (Nat.not_lt.mp h2)
theorem Aol{a b c d:Nat}(h0:a=c+d):a+b=c+b+d:=(congrArg (·+b) h0).trans (Nat.add_right_comm c d b)
theorem Aom{a b c:Nat}:a+b+c+1=a+(b+(c+1)):=congrArg (·+1) (Nat.add_assoc a b c)
theorem Aon{a:Nat}(h0:a≤1000):(-(1073741824:Int))≤(a:Int):=Ahv
theorem Aoo{a:Nat}(h0:a≤1000):(a:Int)≤(1073741824:Int):=Int.ofNat_le.mpr (Nat.le_of_lt (Nat.lt_of_le_of_lt h0 (by decide:1000 < 1073741824)))
theorem Aop{a:Nat}:(Int.toNat (a:Int))=a:=rfl
theorem Aib{a b:Nat}(h0:a=b):a≤b:=Nat.le_of_eq h0
theorem Aoq{a b c d a4 a5:Nat}(h0:c=d+a4+1)(h1:a5=a)(h2:a5≤b):a≤b:=Nat.le_trans (Nat.le_of_eq h1.symm) h2
theorem Aj5{x0 x1:Int}(h0:x0<x1):x0≤x1-(1:Int):=Int.le_sub_one_of_lt h0
theorem Aor{a b:Nat}(h0:¬((b:Int)<(a:Int))):a≤b:=Nat.not_lt.mp fun z=>h0 (Int.ofNat_lt.mpr z)
theorem Aj6{a:Nat}(h0:0<a):(0:Int)<(a:Int):=Int.natCast_pos.mpr h0
theorem Aos{x0:Int}(h0:(0:Int)≤x0):x0=(((Int.toNat x0):Nat):Int):=(Int.toNat_of_nonneg h0).symm
theorem Aot{a:Nat}(h0:a<3):(0:Int)≤(a:Int):=Int.natCast_nonneg _
theorem Aou{a:Nat}(h0:a<3):(a:Int)≤(1000000000:Int):=Int.ofNat_le.mpr (Nat.le_of_lt (Nat.lt_trans h0 (by decide:3 < 1000000000)))
theorem Aov{a:Nat}(h0:a<12):(0:Int)≤(a:Int):=Int.natCast_nonneg _
theorem Aow{a:Nat}(h0:a<12):(a:Int)≤(1000000000:Int):=Int.ofNat_le.mpr (Nat.le_of_lt (Nat.lt_trans h0 (by decide:12 < 1000000000)))
theorem Aox{a:Nat}(h0:a<1000000001):(0:Int)≤(a:Int):=Int.natCast_nonneg _
theorem Aoy{a:Nat}(h0:a<1000000001):(a:Int)≤(1000000000:Int):=Int.ofNat_le.mpr (Nat.le_of_lt_succ h0)
theorem Aoz{a:Nat}(h0:a<2):(0:Int)≤(1000000000:Int)-(a:Int):=Int.sub_nonneg_of_le (Int.ofNat_le.mpr (Nat.le_trans (Nat.le_of_lt h0) (by decide:2 <= 1000000000)))
theorem Ao0{a:Nat}(h0:a<2):(1000000000:Int)-(a:Int)≤(1000000000:Int):=Int.sub_le_self _ (Int.natCast_nonneg a)
theorem Ao1{a:Nat}(h0:a≤900):(-(18446744073709551616:Int))<(a:Int)∧(a:Int)<(18446744073709551616:Int):=⟨Int.lt_of_lt_of_le (by decide) (Int.natCast_nonneg _),Int.lt_of_le_of_lt (Int.ofNat_le.mpr h0) (by decide)⟩
theorem Ao2{a:Nat}:(a:Int)+(3:Int)=((a+3:Nat):Int):=rfl
theorem Ao3{a b:Nat}(h0:(a:Int)+(3:Int)<(b:Int)):a+3<b:=Int.ofNat_lt.mp h0
theorem Aj7{a:Nat}(h0:a≤30):(-(1073741824:Int))≤(a:Int)∧(a:Int)≤(1073741824:Int):=⟨Ahv,Int.ofNat_le.mpr (Nat.le_trans h0 (by decide:30 <= 1073741824))⟩
theorem Ao4{a b:Nat}(h0:(a:Int)<(b:Int))(h1:b≤30):a≤30:=Nat.le_of_lt (Nat.lt_of_lt_of_le (Int.ofNat_lt.mp h0) h1)
theorem Ao5{a b c d:Nat}(h0:(b:Int)<(d:Int))(h1:c=16777216)(h2:a≤30*30)(h3:d≤30):a+b<c:=h1▸Nat.lt_of_le_of_lt (Nat.add_le_add h2 (Nat.le_trans (Nat.le_of_lt (Int.ofNat_lt.mp h0)) h3)) (by decide)
theorem Aj8{a b:Nat}(h0:(a:Int)<(b:Int)):a+1≤b:=Int.ofNat_lt.mp h0
theorem Ao6{a:Nat}(h0:1≤a)(h1:a≤30):(1:Int)≤(a:Int):=Int.ofNat_le.mpr h0
theorem Ao7{a:Nat}(h0:1≤a)(h1:a≤30):(a:Int)≤(30:Int):=Int.ofNat_le.mpr h1
theorem Ao8{a b c:Nat}(h0:1≤b∧b≤30∧1≤a∧a≤30)(h1:c=a):1≤a:=h0.2.2.1
theorem Aj9{a b c:Nat}(h0:1≤b∧b≤30∧1≤a∧a≤30)(h1:c=a):a≤30:=h0.2.2.2
theorem Ahx{a b:Nat}(h0:1≤a∧a≤30∧1≤b∧b≤30):0<a:=Nat.lt_of_lt_of_le (by decide:0 < 1) h0.1
theorem Ao9{a b c:Nat}(h0:1≤b∧b≤30∧1≤c∧c≤30)(h1:a=b):0<a:=Nat.lt_of_lt_of_le (Nat.lt_of_lt_of_le (by decide:0 < 1) h0.1) (Nat.le_of_eq h1.symm)
theorem Aka{a b c:Nat}(h0:1≤a∧a≤30∧1≤b∧b≤30)(h1:c=a):a<16777216:=Nat.lt_of_le_of_lt h0.2.1 (by decide:30 < 16777216)
theorem Apa {a0 a1 a2:Nat} (h0:a0 < a1):a0≠(a1+a2):=Nat.ne_of_lt (Nat.lt_of_lt_of_le h0 (Nat.le_add_right _ _))
theorem Aic {a0 a1 a2:Nat} (h0:a0 < a1):a0≠(a1+(1 * a2)):=Nat.ne_of_lt (Nat.lt_of_lt_of_le h0 (Nat.le_add_right _ _))
theorem Apb{a b c:Nat}(h0:b=a+c+1):a≤b:=Nat.le_of_lt (Nat.lt_of_le_of_lt (Nat.le_add_right _ _) (Nat.le_of_eq h0.symm))
theorem Apc{a b c d:Nat}(h0:b=a+d+1):a≤b+c:=Nat.le_of_lt (Nat.lt_of_lt_of_le (Nat.lt_of_le_of_lt (Nat.le_add_right _ _) (Nat.le_of_eq h0.symm)) (Nat.le_add_right _ _))
theorem Apd {a0 a1 a2 a3:Nat} (h0:a0 < a2) (h1:a1=((a2+a3)+1)):a0≠a1:=Nat.ne_of_lt (Nat.lt_trans (Nat.lt_of_lt_of_le h0 (Nat.le_add_right _ _)) (Nat.le_of_eq h1.symm))
theorem Ape{a b:Nat}(h0:¬(b<a)):a+(b-a)=b:=Nat.add_sub_cancel' (Nat.not_lt.mp h0)
theorem Apf{a b:Nat}(h0:b=16777216)(h1:a≤30):a<b:=Nat.lt_of_lt_of_le (Nat.lt_of_le_of_lt h1 (by decide:30 < 16777216)) (Nat.le_of_eq h0.symm)
theorem Apg{a b:Nat}:a≤a+b:=Nat.le_add_right _ _
theorem Aph{a b:Nat}(h0:b=16777216)(h1:a≤30*30):a<b:=h0▸Nat.lt_of_le_of_lt h1 (by decide)
theorem Api{a:Nat}(h0:a<8):(0:Int)≤(a:Int):=Int.natCast_nonneg _
theorem Apj{a b:Nat}(h0:a<4)(h1:b<5):1≤1+a∧1+a≤30∧1≤1+b∧1+b≤30:=⟨Nat.le_add_right _ _,Nat.le_trans (Nat.add_le_add_left (Nat.le_of_lt h0) 1) (by decide),Nat.le_add_right _ _,Nat.le_trans (Nat.add_le_add_left (Nat.le_of_lt h1) 1) (by decide)⟩
theorem Apk{a:Nat}(h0:a<4):1+a≤4:=Nat.add_comm a 1▸h0
theorem Apl{a:Nat}(h0:a<5):1+a≤5:=Nat.add_comm a 1▸h0
theorem Apm{a:Nat}(h0:a≤4*5):a≤63:=Nat.le_of_lt (Nat.lt_of_le_of_lt h0 (by decide:(4 * 5) < 63))
theorem Akb{a b:Nat}(h0:1≤b∧b≤30∧1≤a∧a≤30):a≤1000:=Nat.le_of_lt (Nat.lt_of_le_of_lt h0.2.2.2 (by decide:30 < 1000))
theorem Akc{a b c:Nat}(h0:1≤c∧c≤30∧1≤a∧a≤30)(h1:b=16777216):a<b:=h1▸Nat.lt_of_le_of_lt h0.2.2.2 (by decide)
theorem Akd{a b c:Nat}(h0:1≤b∧b≤30∧1≤c∧c≤30)(h1:a<b):a≤29:=Nat.le_of_lt_succ (Nat.lt_of_lt_of_le h1 h0.2.1)
theorem Afn{a b:Nat}(h0:1≤b∧b≤30∧1≤a∧a≤30):a≤30:=h0.2.2.2
theorem Apn{a b c d:Nat}(h0:1≤c∧c≤30∧1≤d∧d≤30)(h1:b<d)(h2:a≤29*30):a+b≤900:=Nat.le_trans (Nat.add_le_add h2 (Nat.le_trans (Nat.le_of_lt h1) h0.2.2.2)) (by decide)
theorem Ake{a b c:Nat}(h0:1≤b∧b≤30∧1≤c∧c≤30)(h1:a<b):(-(18446744073709551616:Int))<(a:Int)∧(a:Int)<(18446744073709551616:Int):=⟨Int.lt_of_lt_of_le (by decide) (Int.natCast_nonneg _),Int.lt_trans (Int.ofNat_lt.mpr (Nat.lt_of_lt_of_le h1 h0.2.1)) (by decide)⟩
theorem Apo{a b c:Nat}(h0:b=16777216)(h1:a=c)(h2:c≤1000):a<b:=Nat.lt_of_lt_of_le (Nat.lt_of_le_of_lt (Nat.le_trans (Nat.le_of_eq h1) h2) (by decide:1000 < 16777216)) (Nat.le_of_eq h0.symm)
theorem Akf{a b:Nat}(h0:a<1000)(h1:b=16777216):a<b:=Nat.lt_of_lt_of_le (Nat.lt_trans h0 (by decide:1000 < 16777216)) (Nat.le_of_eq h1.symm)
theorem App{a b:Nat}:a+1+2*b+1=a+2+2*b:=(Nat.add_right_comm (a+1) 1 (2 * b)).symm
theorem Akg {a0 a1:Nat}:a0≠((a0+2)+(2 * a1)):=Nat.ne_of_lt (Nat.lt_of_lt_of_le (Nat.lt_add_of_pos_right (by decide)) (Nat.le_add_right _ _))
theorem Apq{a b:Nat}:a+2+2*b=a+1+2*b+1:=Nat.add_right_comm (a+1) 1 (2 * b)
theorem Aid{a b:Nat}(h0:1≤a∧a≤30∧1≤b∧b≤30):(-(1073741824:Int))≤(a:Int):=Int.le_trans (by decide) (Int.natCast_nonneg _)
theorem Aie{a b:Nat}(h0:1≤a∧a≤30∧1≤b∧b≤30):(a:Int)≤(1073741824:Int):=Int.ofNat_le.mpr (Nat.le_of_lt (Nat.lt_of_le_of_lt h0.2.1 (by decide:30 < 1073741824)))
theorem Apr{a b c:Nat}(h0:(a:Int)<(b:Int))(h1:1≤b∧b≤30∧1≤c∧c≤30):a<1000:=Nat.lt_of_lt_of_le (Int.ofNat_lt.mp h0) (Nat.le_trans h1.2.1 (by decide))
theorem Aps{a b c:Nat}(h0:1≤b∧b≤30∧1≤a∧a≤30)(h1:c=a):a≤1000:=Nat.le_of_lt (Nat.lt_of_le_of_lt h0.2.2.2 (by decide:30 < 1000))
theorem Apt{a b:Nat}:a+1+2*b+1+1=a+1+2*(b+1):=rfl
theorem Apu{a b c d:Nat}(h0:1≤b∧b≤30∧1≤c∧c≤30)(h1:0<d)(h2:a=c):0<a:=Nat.lt_of_lt_of_le (Nat.lt_of_lt_of_le (by decide:0 < 1) h0.2.2.1) (Nat.le_of_eq h2.symm)
theorem Apv{a b:Nat}{x0 x1:Int}(h0:(0:Int)≤x0∧x0<(a:Int)∧(0:Int)≤x1∧x1<(b:Int)):x0=(((Int.toNat x0):Nat):Int):=(Int.toNat_of_nonneg h0.1).symm
theorem Apw{a b:Nat}{x0 x1:Int}(h0:(0:Int)≤x1∧x1<(a:Int)∧(0:Int)≤x0∧x0<(b:Int)):x0=(((Int.toNat x0):Nat):Int):=(Int.toNat_of_nonneg h0.2.2.1).symm
theorem Apx{a b:Nat}{x0 x1:Int}(h0:(0:Int)≤x0∧x0<(a:Int)∧(0:Int)≤x1∧x1<(b:Int)):(Int.toNat x0)<a:=(Int.toNat_lt h0.1).mpr h0.2.1
theorem Apy{a b:Nat}{x0 x1:Int}(h0:(0:Int)≤x1∧x1<(b:Int)∧(0:Int)≤x0∧x0<(a:Int)):(Int.toNat x0)<a:=(Int.toNat_lt h0.2.2.1).mpr h0.2.2.2
theorem Apz{a b c d:Nat}(h0:a<b)(h1:c<d):(0:Int)≤(a:Int)∧(a:Int)<(b:Int)∧(0:Int)≤(c:Int)∧(c:Int)<(d:Int):=⟨Int.natCast_nonneg _,Int.ofNat_lt.mpr h0,Int.natCast_nonneg _,Int.ofNat_lt.mpr h1⟩
theorem Ap0{a b c:Nat}(h0:c<1000)(h1:b=16777216)(h2:a≤c):a<b:=h1▸Nat.lt_trans (Nat.lt_of_le_of_lt h2 h0) (by decide)
theorem Ap1{a:Nat}(h0:a<5):(0:Int)≤(a:Int):=Int.natCast_nonneg _
theorem Ap2{a b c:Nat}(h0:1≤a∧a≤30∧1≤b∧b≤30)(h1:c=a):(-(1073741824:Int))≤(a:Int):=Ahv
theorem Ap3{a b c:Nat}(h0:1≤a∧a≤30∧1≤b∧b≤30)(h1:c=a):(a:Int)≤(1073741824:Int):=Int.ofNat_le.mpr (Nat.le_of_lt (Nat.lt_of_le_of_lt h0.2.1 (by decide:30 < 1073741824)))
theorem Ap4{a b c:Nat}(h0:(a:Int)<(b:Int))(h1:c=b):a<b:=Int.ofNat_lt.mp h0
theorem Akh{a b:Nat}(h0:1≤b∧b≤30∧1≤a∧a≤30):(-(1073741824:Int))≤(a:Int):=Ahv
theorem Aki{a b:Nat}(h0:1≤b∧b≤30∧1≤a∧a≤30):(a:Int)≤(1073741824:Int):=Int.ofNat_le.mpr (Nat.le_of_lt (Nat.lt_of_le_of_lt h0.2.2.2 (by decide:30 < 1073741824)))
theorem Ap5{a b c d:Nat}(h0:(a:Int)<(b:Int))(h1:1≤b∧b≤30∧1≤c∧c≤30)(h2:d=b):a≤29:=Nat.le_of_lt_succ (Nat.lt_of_lt_of_le (Int.ofNat_lt.mp h0) h1.2.1)
theorem Ap6{a b c:Nat}(_:c+a=c+b):a=b:=by grind
theorem Ap7{a:Nat}(_:1≤a):0<a:=by lia
theorem Akj{a b c:Nat}(h0:a<c)(h1:b=c):(a:Int)<(b:Int):=Int.ofNat_lt.mpr (h1▸h0)
theorem Ap8{a b c:Nat}:(min a b)-c≤b:=by omega
theorem Akk{a:Nat}:1≤a+2:=by grind
theorem Ap9{a b:Nat}(_:a≤b+1):1≤a+1∧a+1≤b+2:=by lia
theorem Aqa{a b c d:Nat}(_:b≤c)(_:a≤d):a+b≤c+d:=by grind
theorem Aqb {a0:Nat}:((a0=48) \/ ((a0=49) \/ ((a0=50) \/ ((a0=51) \/ ((a0=52) \/ ((a0=53) \/ ((a0=54) \/ ((a0=55) \/ ((a0=56) \/ (a0=57))))))))))↔((48 <= a0) /\ (a0 <= 57)):=by omega
theorem Aqc{a:Nat}(_:1≤a):(max (0:Int) (min ((-(1:Int))+(a:Int)) (a:Int)))=((a-1:Nat):Int):=by grind
theorem Aqd{a:Nat}(_:1≤a):((a-1:Nat):Int)<(a:Int):=by omega
theorem Aqe{a:Nat}(_:1≤a):(Int.toNat (((a:Int)-((a-1:Nat):Int)+(1:Int)-(1:Int))/(1:Int)))=1:=by grind
theorem Aqf{a b:Nat}(_:1≤b)(_:b=0):1<a:=by grind
theorem Aqg{a b:Nat}(_:1≤b)(_:b≤a)(_:¬(a=1)):1<a:=by lia
theorem Aqh{a:Nat}(_:(10:Int)<(a:Int)):10<a:=by lia
theorem Akl{a:Nat}(_:¬((10:Int)<(a:Int)))(_:¬(a=0)):0<a:=by lia
theorem Aqi{a:Nat}(_:¬((10:Int)<(a:Int)))(_:¬(a=0)):1≤a:=by grind
theorem Aqj{a:Nat}(_:¬((10:Int)<(a:Int))):a≤640:=by lia
theorem Aqk{a:Nat}(_:¬((10:Int)<(a:Int))):¬(10<a):=by lia
theorem Aql{a:Nat}(_:(1000000000:Int)<(a:Int)):1000000000<a:=by lia
theorem Aqm{a:Nat}(_:¬((1000000000:Int)<(a:Int))):¬(1000000000<a):=by lia
theorem Aqn{a:Nat}(_:(1:Int)<(a:Int))(_:¬((10:Int)<(a:Int))):1<a:=by lia
theorem Aqo{a:Nat}(_:¬((10:Int)<(a:Int)))(_:¬((1:Int)<(a:Int))):¬(1<a):=by lia
theorem Aqp{a:Nat}(_:a=0):a≤a-1:=by lia
theorem Akm{a:Nat}(_:¬(a=0)):1≤a:=by grind
theorem Aqq{a b:Nat}(_:a+1≤b)(_:a<b):a≤b:=by grind
theorem Aqr{a b c d a4 a5 a6:Nat}(_:a4<a5)(_:b≤a6)(_:a6≤d)(_:a≤c):a+b≤c+d:=by lia
theorem Akn{a:Nat}(_:a≤3300):a+2≤3302:=by lia
theorem Aqs{a b c d:Nat}(_:a+3+c+2*d≤b):a≤b:=by lia
theorem Aqt {a0 a1 a2 a3:Nat} (_:(((a1+3)+a2)+(2 * a3)) <= a0):a0≠a1:=by lia
theorem Aqu {a0 a1 a2 a3:Nat} (_:(((a1+3)+a2)+(2 * a3)) <= a0):a0≠(a1+1):=by grind
theorem Aqv {a0 a1 a2 a3:Nat} (_:(((a1+3)+a2)+(2 * a3)) <= a0):a0≠(a1+2):=by grind
theorem Aqw {a0 a1 a2 a3 a4:Nat} (_:(((a1+3)+a2)+(2 * a4)) <= a0) (_:a3 < a4):a0≠(((a1+3)+a2)+(2 * a3)):=by lia
theorem Aqx{a:Nat}:a≤a+1:=Nat.le_of_lt (Nat.lt_succ_self _)
theorem Aqy {a0:Nat}:(a0+1)≠a0:=Nat.ne_of_gt (Nat.lt_succ_self _)
theorem Aqz {a0:Nat}:(a0+1)≠(a0+2):=by grind
theorem Aq0 {a0 a1 a2:Nat}:(a0+1)≠(((a0+3)+a1)+(2 * a2)):=by grind
theorem Aq1 {a0:Nat}:a0≠(a0+1):=Nat.ne_of_lt (Nat.lt_succ_self _)
theorem Aq2 {a0:Nat}:a0≠(a0+2):=by grind
theorem Aq3 {a0 a1 a2:Nat}:a0≠(((a0+3)+a1)+(2 * a2)):=by grind
theorem Aq4{a:Nat}(_:a≤3300):a+2≤16777216:=by lia
theorem Aq5{a b:Nat}(_:a=b)(_:¬(30<a)):a≤30:=by grind
theorem Aq6{a:Nat}(_:¬(30<a)):a≤30:=by grind
theorem Ako{a:Nat}(_:a≤30):¬(30<a):=by lia
theorem Aq7{a b:Nat}(_:1≤b∧b≤3302)(_:a=b):0<a:=by grind
theorem Aq8{a b c d:Nat}(_:1≤c∧c≤3302)(_:1≤d∧d≤3302)(_:d=b∧d≤30∧a≤30)(_:0<a)(_:a=c):1≤a∧a≤30∧1≤b∧b≤30:=by lia
theorem Aq9{a b:Nat}(_:a<b):a≤b:=by lia
theorem Ara{a b:Nat}:a+4+2*b+1=a+5+2*b:=by grind
theorem Arb{a b:Nat}(_:1≤b∧b≤3302)(_:a<b):(min a b)<16777216:=by grind
theorem Arc{a b:Nat}:a+3+0+2*b≤a+3+2*b:=by grind
theorem Akp {a0 a1:Nat}:((a0+3)+(2 * a1))≠((a0+4)+(2 * a1)):=by lia
theorem Ard{a b c d:Nat}(_:1≤c∧c≤3302)(_:d<c)(_:a≤3302*3302)(_:b≤d):a+b<16777216:=by grind
theorem Are {a0 a1:Nat}:(a0+1)≠((a0+4)+(2 * a1)):=by grind
theorem Arf {a0 a1:Nat}:(a0+1)≠((a0+3)+(2 * a1)):=by grind
theorem Arg{a b:Nat}:a+3+2*b+1=a+4+2*b:=by grind
theorem Arh{a b:Nat}(_:1≤b∧b≤3302)(_:a<b):a<16777216:=by grind
theorem Ari{a b:Nat}:a+5+2*b=a+3+2*(b+1):=by grind
theorem Arj{a b c d a4 a5:Nat}(_:c<d)(_:a4<a5)(_:b=16777216)(_:d≤900)(_:a≤c):a<b:=by lia
theorem Ark{a b:Nat}(_:b≤900)(_:a≤b):a≤900:=by lia
theorem Arl{a b:Nat}(_:1≤b∧b≤3302)(_:(30:Int)<(b:Int))(_:a=b):0<a:=by grind
theorem Arm{a b:Nat}(_:1≤b∧b≤3302)(_:(30:Int)<(b:Int))(_:a=b)(_:a≤30):¬(a≤30):=by lia
theorem Arn{a b c d:Nat}(_:c<b)(_:d=a+1)(_:a≤c):a≤b:=by grind
theorem Aro{a b c d a4 a5:Nat}(_:c<b)(_:d=a+1)(_:a4=b+a5)(_:a≤c):a≤b:=by grind
theorem Arp{a:Nat}(_:a%10<10)(_:¬(a<10)):0<a/10:=by grind
theorem Arq{a:Nat}(_:a%10<10)(_:¬(a<10)):a/10<a:=by lia
theorem Arr{a:Nat}(_:a%10<10)(_:¬(a<10)):1≤a/10:=by grind
theorem Ars{a:Nat}(_:a≤1000000000)(_:¬(a=0)):1≤a:=by grind
theorem Art (_:49 <= 48):False:=by grind
theorem Aru{a:Nat}(_:1≤a)(_:a≤10):¬(a=0):=by grind
theorem Arv{a:Nat}(_:1≤a)(_:a≤10):¬(10<a):=by lia
theorem Arw{a:Nat}(_:a≤1000000000):¬(1000000000<a):=by grind
theorem Arx{a:Nat}:(-((a+1:Nat):Int))≤(-(1:Int)):=by grind
theorem Ary{a:Nat}:(Int.toNat ((-(1:Int))+((a+1:Nat):Int)-(0:Int)))=a:=by lia
theorem Akq{a:Nat}(_:(a:Int)≤(1000000000:Int))(_:(0:Int)≤(a:Int)):a≤1000000000:=by lia
theorem Arz{a:Nat}(_:a≤10):a+1≤11:=by grind
theorem Ar0{a:Nat}(_:a≤10):a≤11:=by lia
theorem Ar1{a b c:Nat}(_:c≤b*11)(_:a≤c+b*1):a≤b*12:=by lia
theorem Ar2{a b c d a4:Nat}(_:1≤b∧b≤30∧1≤c∧c≤30)(_:d≤a4*12)(_:a≤d+b*1)(_:a4≤63):a≤800:=by lia
theorem Akr{a b:Nat}(_:1≤a∧a≤30∧1≤b∧b≤30):1≤a:=by lia
theorem Ar3{a b:Nat}(_:1≤b∧b≤30∧1≤a∧a≤30):1≤a:=by lia
theorem Ar4{a b c:Nat}(_:1≤b∧b≤30∧1≤c∧c≤30)(_:a=b):a≤30:=by lia
theorem Afo{a b c:Nat}(_:a<c)(_:b=c):a<b:=by lia
theorem Ar5{a b c d a4:Nat}(_:c<d)(_:a4=d)(_:¬(b<a)):a≤b:=by grind
theorem Ar6{a b c d a4 a5:Nat}(_:c<d)(_:a4=d)(_:a=a5)(_:¬(b<a5)):a≤b:=by lia
theorem Aks{a b c:Nat}(_:a=c)(_:¬(b<c)):a≤b:=by grind
theorem Ar7{a b c d:Nat}(_:1≤d∧d≤30∧1≤b∧b≤30)(_:c=16777216)(_:a≤b*11):a+b*1≤c:=by grind
theorem Aif{a b:Nat}(h0:1≤a∧a≤30∧1≤b∧b≤30):a≤30:=h0.2.1
theorem Ar8{a b:Nat}(_:1≤b∧b≤30∧1≤a∧a≤30):a*12≤360:=by lia
theorem Ar9{a b c d a4:Nat}(_:1≤b∧b≤30∧1≤d∧d≤30)(_:c=16777216)(_:a4≤30*360)(_:a≤a4):a+b*1≤c:=by grind
theorem Asa{a b c d:Nat}(_:1≤c∧c≤30∧1≤d∧d≤30)(_:a<d)(_:b=16777216):a<b:=by grind
theorem Akt{a b:Nat}(_:b=16777216)(_:a≤11):a+1≤b:=by lia
theorem Aku{x0:Int}(_:(0:Int)≤x0)(_:x0≤(1000000000:Int)):x0≤(1000000001:Int):=by lia
theorem Asb{a b:Nat}:a+1+b+1=a+2+b:=by grind
theorem Asd{a b c d a4:Nat}(_:d=b+2+c)(_:a4=b+2+c)(_:a=b):a≤b+1+c:=by lia
theorem Ase {a0 a1 a2 a3 a4:Nat} (_:a2=((a0+2)+a1)) (_:a3=((a0+2)+a1)) (_:a4=a0):((a0+1)+a1)≠a0:=by grind
theorem Asf{a b c d a4 a5 a6 a7:Nat}(_:1≤c∧c≤30∧1≤d∧d≤30)(_:a<c)(_:a4=a5+2+a)(_:a6=a5+2+a)(_:b=16777216)(_:a7=a5):a<b:=by grind
theorem Asg{a b:Nat}:a+2+b=a+1+(b+1):=by grind
theorem Ash{a b c:Nat}(_:1≤b∧b≤30∧1≤c∧c≤30)(_:a=c):(0:Int)<(a:Int):=by lia
theorem Asi {a0 a1 a2 a3:Nat} (_:(1 <= a2) /\ ((a2 <= 30) /\ ((1 <= a3) /\ (a3 <= 30)))) (_:a1=a2):(a0+(1 * 0))≠(a0+a1):=by lia
theorem Asj {a0 a1 a2 a3 a4:Nat} (_:(1 <= a2) /\ ((a2 <= 30) /\ ((1 <= a3) /\ (a3 <= 30)))) (_:a1=(a0+a2)) (_:a4=a2):(a0+(1 * 0))≠a1:=by grind
theorem Aig{a b c d a4:Nat}(_:1≤a∧a≤30∧1≤b∧b≤30)(_:c=d+a)(_:a4=a):0<a:=by lia
theorem Aih{a b c:Nat}(_:1≤b∧b≤30∧1≤a∧a≤30)(_:c=a):0<a:=by lia
theorem Ask{a b c:Nat}(_:b<1000)(_:c<b)(_:a≤c):a<16777216:=by lia
theorem Akv{x0 x1:Int}(h0:x0=x1):¬(x0<x1):=fun z=>Int.lt_irrefl _ (Int.lt_of_le_of_lt (Int.le_of_eq h0.symm) z)
theorem Akw{x0 x1 x2 x3:Int}(h0:x1<x0∨x1=x0∧x3<x2):¬(x0<x1∨x0=x1∧x2<x3):=h0.elim (fun p=>fun h=>h.elim (Int.lt_asymm p) fun q=>Int.ne_of_lt p q.1.symm) fun p=>fun h=>h.elim (fun q=>Int.ne_of_lt q p.1.symm) fun q=>Int.lt_asymm p.2 q.2
theorem Asl{x0 x1 x2 x3 x4 x5:Int}(h0:¬(x4<x1∨x4=x1∧x5<x3))(h1:¬(x0<x4∨x0=x4∧x2<x5)):¬(x0<x1∨x0=x1∧x2<x3):=fun h=>h.elim (fun q=>h1 (.inl (Int.lt_of_lt_of_le q (Int.not_lt.mp fun z=>h0 (.inl z))))) fun h=>have e:x4=x1:=Int.le_antisymm (h.1▸Int.not_lt.mp fun z=>h1 (.inl z)) (Int.not_lt.mp fun z=>h0 (.inl z));h1 (.inr ⟨h.1.trans e.symm,Int.lt_of_lt_of_le h.2 (Int.not_lt.mp fun z=>h0 (.inr ⟨e,z⟩))⟩)
theorem Asm{x0 x1 x2 x3:Int}(h0:¬(x0<x1∨x0=x1∧x2<x3))(h1:¬(x1<x0∨x1=x0∧x3<x2)):x0=x1:=Int.le_antisymm (Int.not_lt.mp fun z=>h1 (.inl z)) (Int.not_lt.mp fun z=>h0 (.inl z))
theorem Asn{x0 x1 x2 x3:Int}(h0:¬(x2<x3∨x2=x3∧x0<x1))(h1:¬(x3<x2∨x3=x2∧x1<x0)):x0=x1:=have e:x2=x3:=Int.le_antisymm (Int.not_lt.mp fun z=>h1 (.inl z)) (Int.not_lt.mp fun z=>h0 (.inl z));Int.le_antisymm (Int.not_lt.mp fun z=>h1 (.inr ⟨e.symm,z⟩)) (Int.not_lt.mp fun z=>h0 (.inr ⟨e,z⟩))
theorem Aso{x0 x1:Int}(_:x0<x0∨x0=x0∧x1<x1):False:=by grind
theorem Asp{a:Nat}(h0:a≤63):a<64:=Nat.lt_succ_of_le h0
theorem Asq{a b c d:Nat}(_:(a:Int)<(c:Int))(_:1≤c∧c≤30∧1≤d∧d≤30)(_:b=16777216):a<b:=by grind
theorem Asr{a b c:Nat}(_:c≤b)(_:a≤c):a≤b:=by grind
theorem Ass{a b c d a4:Nat}(_:c=b+d)(_:a4≤b)(_:a≤a4):a≤b:=by grind
theorem Ast{a b:Nat}(h0:1≤b∧b≤30∧1≤a∧a≤30):0<a:=Nat.lt_of_lt_of_le (by decide:0 < 1) h0.2.2.1
theorem Asu{a b:Nat}(_:1≤a∧a≤30∧1≤b∧b≤30):¬((a:Int)=(0:Int)):=by lia
theorem Asv{a b:Nat}(h0:1≤b∧b≤30∧1≤a∧a≤30):¬((a:Int)=(0:Int)):=Int.natCast_ne_zero.mpr (Nat.ne_of_gt h0.2.2.1)
theorem Asw{a b c d:Nat}(_:1≤c∧c≤30∧1≤d∧d≤30)(_:b=16777216)(_:a=c):a<b:=by lia
theorem Asx {a0 a1 a2 a3:Nat} (_:a1 < a3) (_:a2=a3):(a0+(1 * a1))≠(a0+a2):=by grind
theorem Akx{a b:Nat}:a≤a+1*b:=by grind
theorem Asy{a b c d a4 a5:Nat}(_:d=b+a4)(_:a5=a4)(_:a≤b):a≤b+1*c:=by lia
theorem Asz {a0 a1 a2 a3 a4:Nat} (_:a1 < a3) (_:a2=(a0+a3)) (_:a4=a3):(a0+(1 * a1))≠a2:=by lia
theorem As0 {a0 a1 a2 a3 a4 a5 a6:Nat} (_:(1 <= a4) /\ ((a4 <= 30) /\ ((1 <= a5) /\ (a5 <= 30)))) (_:(a0+(1 * a1)) < a2) (_:a6=(a0+a4)) (_:a3=a4):(a0+(1 * a1))≠(a2+a3):=by lia
theorem As1 {a0 a1 a2 a3 a4 a5 a6:Nat} (_:(a0+(1 * a1)) < a2) (_:a4=(a0+a5)) (_:a6=a5):(a0+(1 * a1))≠(a2+(1 * a3)):=by grind
theorem As2{a b:Nat}(_:b=16777216)(_:a≤900):a<b:=by lia
theorem As3 {a0 a1 a2 a3 a4:Nat} (_:(1 <= a3) /\ ((a3 <= 30) /\ ((1 <= a4) /\ (a4 <= 30)))) (_:a0 < a1) (_:a2=a3):a0≠(a1+a2):=by grind
theorem As4{a b c d a4:Nat}(_:1≤d∧d≤30∧1≤a4∧a4≤30)(_:a<b)(_:c=d):a<b+c:=by lia
theorem As5{a b:Nat}(_:b=16777216)(_:a≤63):a+1≤b:=by lia
theorem As6{a:Nat}(_:a≤63):a+1≤64:=by lia
theorem As7 {a0 a1:Nat} (_:a0 < a1):a0≠a1:=by lia
theorem Aky{a:Nat}(h0:a≤63):a<1000:=Nat.lt_of_le_of_lt h0 (by decide:63 < 1000)
theorem Ah {P:Prop} (h:∀ G:Prop,(P -> G) -> G):P:=h P id
theorem Aa {α:Type} {a:α} {P:Prop} (h:(none:Option α)=some a):P:=nomatch h
theorem Cd {P:Prop} (h:false=true):P:=nomatch h
open PySem
noncomputable section
inductive Val where
  | none
  | bool (b:Bool)
  | int (i:Int)
  | str (s:Str)
  | tup (vs:List Val)
  | loc (l:Nat)
  | script (ns:List Int)
  | rng (n:Int)
  | exc (c:Nat)
noncomputable def Abz (a b:List Val):Bool:=@decide (a=b) (Classical.propDecidable _)
theorem Xs (a b:List Val) (h:Abz a b=true):a=b:=@of_decide_eq_true _ (Classical.propDecidable _) h
theorem R7 (a:List Val):Abz a a=true:=@decide_eq_true _ (Classical.propDecidable _) rfl
noncomputable abbrev Key:=Int × Int
inductive HObj where
  | list (xs:List Val)
  | dict (es:List (Key × Val))
  | inst (c:Nat) (fs:List (Nat × Val))
  | hid
noncomputable abbrev Hp:=List HObj
inductive Res (α:Type) where
  | ok (a:α) (H:Hp)
  | exc (c:Nat) (H:Hp)
  | bad
theorem Df {α:Type} {a:α} {H:Hp} {P:Prop} (h:(Res.bad:Res α)=.ok a H):P:=nomatch h
theorem Kq {α:Type} {a:α} {c:Nat} {H H':Hp} {P:Prop} (h:(Res.exc c H':Res α)=.ok a H):P:=nomatch h
noncomputable def M (α:Type):=Hp -> Res α
namespace M
noncomputable def ret {α:Type} (a:α):M α:=fun H=>.ok a H
noncomputable def bnd {α β:Type} (m:M α) (f:α -> M β):M β:=fun H =>
  match m H with
  | .ok a H'=>f a H'
  | .exc c H'=>.exc c H'
  | .bad=>.bad
noncomputable def bad {α:Type}:M α:=fun _=>.bad
noncomputable def raise {α:Type} (c:Nat):M α:=fun H=>.exc c H
noncomputable def ofOpt {α:Type}:Option α -> M α
  | some a=>ret a
  | none=>bad
noncomputable def look {α:Type} (f:Hp -> Option α):M α:=fun H =>
  match f H with
  | some a=>.ok a H
  | none=>.bad
noncomputable def quiet {α:Type} (m:M α):M α:=fun H =>
  match m H with
  | .exc _ _=>.bad
  | r=>r
noncomputable def alloc (o:HObj):M Val:=fun H=>.ok (.loc H.length) (H++[o])
noncomputable def put (l:Nat) (o:HObj):M Unit:=fun H=>.ok () (H.set l o)
end M
theorem Dr {α β:Type} {m:M α} {f:α -> M β} {H H':Hp} {a:α} (h:m H=.ok a H'):(m.bnd f) H=f a H':=by
  unfold M.bnd;rw [h]
theorem Eb {α β:Type} {m:M α} {f:α -> M β} {H H':Hp} {c:Nat} (h:m H=.exc c H'):(m.bnd f) H=.exc c H':=by
  unfold M.bnd;rw [h]
theorem Cu {α β:Type} {m:M α} {f:α -> M β} {H:Hp} (h:m H=.bad):(m.bnd f) H=.bad:=by
  unfold M.bnd;rw [h]
inductive BOp where
  | add | sub | mul | fdiv | mod
inductive COp where
  | eq | ne | lt | le | gt | is | isNot | isin | notin
inductive Ty where
  | int | bool | str | tuple | list
  | cls (c:Nat)
inductive BF where
  | len | range | list | max2 | str | int | sortedSet
inductive BM where
  | append | dpop | clear | join | split
set_option genCtorIdx false in
mutual
inductive ME where
  | none
  | bool (b:Bool)
  | int (i:Int)
  | str (s:Str)
  | glob (k:Nat)
  | var (i:Nat)
  | bin (op:BOp) (a b:ME)
  | neg (a:ME)
  | not (a:ME)
  | and (a b:ME)
  | or (a b:ME)
  | cmp (op:COp) (a b:ME)
  | cmp2 (op1 op2:COp) (a b c:ME)
  | sub (a i:ME)
  | slice (a:ME) (lo hi:MEo)
  | tup (es:MEs)
  | list (es:MEs)
  | dict
  | attr (a:ME) (n:Nat)
  | call (f:Nat) (es:MEs)
  | new (c:Nat) (es:MEs)
  | umeth (a:ME) (m:Nat) (es:MEs)
  | bf (f:BF) (es:MEs)
  | bm (a:ME) (m:BM) (es:MEs)
  | isinst (a:ME) (t:Ty)
  | sset (a:ME)
  | comp (elt:ME) (it:ME) (cond:MEo)
inductive MEo where
  | none
  | some (e:ME)
inductive MEs where
  | nil
  | cons (e:ME) (es:MEs)
end
set_option genCtorIdx false in
mutual
inductive MS where
  | expr (e:ME)
  | assign (i:Nat) (e:ME)
  | setattr (o:ME) (n:Nat) (e:ME)
  | setitem (o i:ME) (e:ME)
  | ret (e:MEo)
  | ite (c:ME) (t f:MSs)
  | each (i:Nat) (it:ME) (body:MSs)
  | eachEnum (i j:Nat) (a:ME) (body:MSs)
  | raise (c:Nat) (msg:Str)
inductive MSs where
  | nil
  | cons (s:MS) (ss:MSs)
end
structure MFun where
  arity:Nat
  nvars:Nat
  body:MSs
structure Tab where
  funs:List MFun
  /-- of each class: its methods,by the name's number;number 0 is __init__ -/
  meths:List (List (Nat × Nat))
  /-- of each class: the classes that it stands under (itself too) -/
  subs:List (List Nat)
  globs:List Val
noncomputable def Tab.meth (T:Tab) (c m:Nat):Option Nat:=(T.meths[c]?).bind fun l=>l.lookup m
noncomputable def Tab.sub (T:Tab) (c d:Nat):Bool:=((T.subs[c]?).getD []).contains d
noncomputable def lid:Nat:=16777216
noncomputable def Id (f:Val -> Option PyData):List Val -> Option (List PyData)
  | []=>some []
  | x :: xs =>
    match f x,Id f xs with
    | some d,some ds=>some (d :: ds)
    | _,_=>none
noncomputable def Ql:Val -> Option PyData
  | .none=>some .none
  | .bool b=>some (.bool b)
  | .int i=>some (.int i)
  | .str s=>if PyData.strOk s=true then some (.str s) else none
  | _=>none
noncomputable def Az (H:Hp):Nat -> Val -> Option PyData
  | 0,v=>Ql v
  | n+1,v =>
    match v with
    | .tup vs=>(Id (Az H n) vs).map .tuple
    | .loc l =>
      match H[l]? with
      | some (.list xs)=>(Id (Az H n) xs).map .list
      | _=>none
    | v=>Ql v
noncomputable def Eu:Nat:=6
noncomputable def Ev (H:Hp) (a b:Val):Option Bool :=
  match Az H Eu a,Az H Eu b with
  | some x,some y=>some (PyData.eqv x y)
  | _,_=>none
noncomputable def lts (e f:Val -> Val -> Option Bool):List Val -> List Val -> Option Bool
  | [],[]=>some false
  | [],_ :: _=>some true
  | _ :: _,[]=>some false
  | x :: xs,y :: ys =>
    match e x y with
    | some true=>lts e f xs ys
    | some false=>f x y
    | none=>none
noncomputable def Afj:Val -> Option Int
  | .int i=>some i
  | _=>none
noncomputable def Akz:Val -> Option (List Val)
  | .tup i=>some i
  | _=>none
noncomputable def Ahy (p:Int -> Int -> Bool) (a b:Val):Option Bool:=(Afj a).bind fun x=>(Afj b).map fun y=>p x y
noncomputable def Qm:Nat -> Val -> Val -> Option Bool
  | 0,_,_=>none
  | n+1,a,b =>
    match a with
    | .int x=>(Afj b).map fun y=>decide (x < y)
    | .tup xs=>(Akz b).bind fun ys=>lts (Ev []) (Qm n) xs ys
    | _=>none
noncomputable def As8 (a b:Val):List Val -> Option (Val × Val)
  | []=>some (a,b)
  | _ :: _=>none
noncomputable def As9 (a:Val):List Val -> Option (Val × Val)
  | []=>none
  | b :: vs=>As8 a b vs
noncomputable def Aii:Val -> Option (Val × Val)
  | .tup vs=>(match vs with
    | []=>none
    | a :: vs=>As9 a vs)
  | _=>none
noncomputable def Ec (v:Val):Option Key:=(Aii v).bind fun p=>(Afj p.1).bind fun a=>(Afj p.2).map fun b=>(a,b)
noncomputable def Ad (k:Key):Val:=.tup [.int k.1,.int k.2]
noncomputable def Ex (es:List (Key × Val)) (k:Key):Option Val:=es.lookup k
noncomputable def Hq:List (Key × Val) -> Key -> Val -> List (Key × Val)
  | [],k,v=>[(k,v)]
  | (k',v') :: es,k,v=>if k'=k then (k',v) :: es else (k',v') :: Hq es k v
noncomputable def M4:List (Key × Val) -> Key -> List (Key × Val)
  | [],_=>[]
  | (k',v') :: es,k=>if k'=k then es else (k',v') :: M4 es k
noncomputable def Kr (H:Hp) (x:Val) (ys:List Val):Option Bool :=
  match Az H Eu x,Id (Az H Eu) ys with
  | some d,some ds=>some (ds.any fun y=>PyData.eqv y d)
  | _,_=>none
noncomputable def small (a:Int):Bool:=decide (-(2 ^ 64) < a) && decide (a < 2 ^ 64)
noncomputable def Xl (op:BOp) (a b:Val):M Val :=
  match op,a,b with
  | .add,.int x,.int y=>.ret (.int (x+y))
  | .sub,.int x,.int y=>.ret (.int (x - y))
  | .mul,.int x,.int y=>if (small x || small y)=true then .ret (.int (x * y)) else .bad
  | .fdiv,.int x,.int y=>if y=0 \/ 1073741824 <= y.natAbs then .bad else .ret (.int (Int.fdiv x y))
  | .mod,.int x,.int y=>if y=0 then .bad else .ret (.int (Int.fmod x y))
  | .add,.str x,.str y=>if x.length+y.length <= lid then .ret (.str (x++y)) else .bad
  | .add,.loc x,.loc y=>fun H =>
    match H[x]?,H[y]? with
    | some (.list xs),some (.list ys)=>if xs.length+ys.length <= lid then M.alloc (.list (xs++ys)) H else .bad
    | _,_=>.bad
  | .mul,.loc x,.int n=>fun H =>
    match H[x]? with
    | some (.list [v])=>if 0 <= n /\ n <= 1000 then M.alloc (.list (List.replicate n.toNat v)) H else .bad
    | _=>.bad
  | _,_,_=>.bad
noncomputable def Xm (_neg:Bool):Option Bool -> Option Bool
  | some b=>some (!b)
  | none=>none
noncomputable def isV (a b:Val):Option Bool :=
  match b with
  | .none=>some (match a with | .none=>true | _=>false)
  | .bool y=>(match a with | .bool x=>some (x == y) | _=>none)
  | _=>none
noncomputable def inV (a b:Val) (H:Hp):Option Bool :=
  match b with
  | .loc l =>
    match H[l]? with
    | some (.list ys)=>Kr H a ys
    | some (.dict es)=>match Ec a with
      | some k=>some (Ex es k).isSome
      | none=>none
    | _=>none
  | .str y=>match a with
    | .str x=>some (Txt.contains y x)
    | _=>none
  | _=>none
noncomputable def C2 (op:COp) (a b:Val) (H:Hp):Option Bool :=
  match op with
  | .eq=>Ev H a b
  | .ne=>Xm true (Ev H a b)
  | .lt=>Qm Eu a b
  | .gt=>Ahy (fun x y=>decide (x > y)) a b
  | .le=>Ahy (fun x y=>decide (x <= y)) a b
  | .is=>isV a b
  | .isNot=>Xm true (isV a b)
  | .isin=>inV a b H
  | .notin=>Xm true (inV a b H)
noncomputable def Cj (v:Val) (H:Hp):Option (List Val × Option Nat) :=
  match v with
  | .loc l =>
    match H[l]? with
    | some (.list xs)=>some (xs,some l)
    | _=>none
  | .tup xs=>some (xs,none)
  | .script ns=>some (ns.map .int,none)
  | .rng n=>some ((List.range n.toNat).map (fun (k:Nat)=>.int (k:Int)),none)
  | .str s=>some (s.cps.toList.map (fun c=>.str ⟨#[c]⟩),none)
  | _=>none
noncomputable def chk (src:Option Nat) (xs:List Val) (H:Hp):Bool :=
  match src with
  | none=>true
  | some l =>
    match H[l]? with
    | some (.list ys)=>Abz ys xs
    | _=>false
noncomputable def B3 (v:Val) (H:Hp):Option (List Val) :=
  match v with
  | .loc l =>
    match H[l]? with
    | some (.list xs)=>some xs
    | _=>none
  | .tup xs=>some xs
  | .script ns=>some (ns.map .int)
  | _=>none
noncomputable def Bh (i:Int) (n:Nat):Option Nat :=
  if 0 <= i then (if i < n then some i.toNat else none) else (if -(n:Int) <= i then some (i+n).toNat else none)
noncomputable def Fx:Val -> Option (Option Int)
  | .none=>some none
  | .int i=>some (some i)
  | _=>none
noncomputable def En (a i:Val):M Val:=.look fun H =>
  match a,i with
  | .loc l,i =>
    match H[l]?,i with
    | some (.list xs),.int k=>(Bh k xs.length).bind fun p=>xs[p]?
    | some (.dict es),i=>(Ec i).bind (Ex es)
    | _,_=>none
  | .tup xs,.int k=>if 0 <= k then xs[k.toNat]? else none
  | .script ns,.int k=>(Bh k ns.length).bind fun p=>(ns[p]?).map .int
  | .str s,.int k=>(Bh k s.length).bind fun p=>(s.cps[p]?).map fun c=>.str ⟨#[c]⟩
  | _,_=>none
noncomputable def Ab0:Val -> Bool
  | .tup _=>true
  | _=>false
noncomputable def Afp (lo hi:Val) (n:Nat):Option (Bool × Nat):=match lo with
  | .int k=>(match hi with
    | .none=>some (true,if 0 <= k then k.toNat else n - k.natAbs)
    | _=>none)
  | .none=>(match hi with
    | .int k=>if 0 <= k then some (false,k.toNat) else none
    | _=>none)
  | _=>none
noncomputable def cut {α:Type} (p:Bool × Nat) (xs:List α):List α:=match p.1 with
  | true=>xs.drop p.2
  | false=>xs.take p.2
noncomputable def Tm:Val -> Option Str
  | .str s=>some s
  | _=>none
noncomputable def Qn (a lo hi:Val):Option Val:=(Tm a).bind fun x=>(Fx lo).bind fun l=>(Fx hi).map fun h=>.str (Txt.slice x l h)
noncomputable def I2 (a lo hi:Val):M Val:=fun H =>
  match B3 a H with
  | some xs=>(match Afp lo hi xs.length with
    | some p=>if Ab0 a=true then .bad else M.alloc (.list (cut p xs)) H
    | none=>.bad)
  | none=>M.ofOpt (Qn a lo hi) H
structure Order (xs:List Val) (lt:Val -> Val -> Bool):Prop where
  is:∀ x∈xs,∀ y∈xs,Qm Eu x y=some (lt x y)
  asym:∀ x∈xs,∀ y∈xs,lt x y=true -> lt y x=false
  tr:∀ x∈xs,∀ y∈xs,∀ z∈xs,lt y x=false -> lt z y=false -> lt z x=false
  anti:∀ x∈xs,∀ y∈xs,lt x y=false -> lt y x=false -> x=y
noncomputable def Ie (xs:List Val):Prop:=xs.length < 64 /\ ((∀ x∈xs,∃ i,x=.int i) \/ ∀ x∈xs,∃ i r,x=.tup (.int i :: r)) /\ ∃ lt,Order xs lt
noncomputable def Ge (xs ys:List Val):Prop:=ys.Perm xs /\ ys.Pairwise fun a b=>Qm Eu b a=some false
open Classical in
noncomputable def Ey (xs:List Val):Option (List Val):=if h:Ie xs /\ ∃ ys,Ge xs ys then some (choose h.2) else none
theorem I3 {xs:List Val} {lt:Val -> Val -> Bool} (O:Order xs lt):∀ (ys zs:List Val),(∀ y∈ys,y∈xs) -> ys.Perm zs -> (ys.Pairwise fun a b=>Qm Eu b a=some false) -> (zs.Pairwise fun a b=>Qm Eu b a=some false) -> ys=zs
  | [],zs,_,p,_,_=>(List.nil_perm.mp p).symm
  | y :: ys,[],_,p,_,_=>by have:=p.length_eq;simp at this
  | y :: ys,z :: zs,hs,p,sy,sz=>by
    have hy:=List.pairwise_cons.mp sy
    have hz:=List.pairwise_cons.mp sz
    have my:y∈xs:=hs y (.head _)
    have mz:z∈xs:=hs z (p.mem_iff.mpr (.head _))
    have irr:∀ x∈xs,lt x x=false:=fun x hx=>by
      cases q:lt x x with
      | false=>rfl
      | true=>rw [O.asym x hx x hx q] at q;exact nomatch q
    have g:∀ a∈xs,∀ b∈xs,Qm Eu a b=some false -> lt a b=false:=fun a ha b hb h=>by rw [O.is a ha b hb] at h;exact Option.some.inj h
    have e:y=z:=by
      refine O.anti y my z mz ?_ ?_
      · have m2:y∈z :: zs:=p.mem_iff.mp (.head _)
        cases m2 with
        | head=>exact irr _ my
        | tail _ h=>exact g y my z mz (hz.1 y h)
      · have m1:z∈y :: ys:=p.mem_iff.mpr (.head _)
        cases m1 with
        | head=>exact irr _ mz
        | tail _ h=>exact g z mz y my (hy.1 z h)
    subst e
    rw [I3 O ys zs (fun x hx=>hs x (.tail _ hx)) (List.perm_cons y |>.mp p) hy.2 hz.2]
theorem I4 {xs ys:List Val} (h:Ie xs) (s:Ge xs ys):Ey xs=some ys:=by
  have q:Ie xs /\ ∃ ys,Ge xs ys:=⟨h,ys,s⟩
  unfold Ey
  rw [dif_pos q]
  obtain ⟨lt,O⟩:=h.2.2
  have c:=Classical.choose_spec q.2
  rw [I3 O _ ys (fun y hy=>c.1.mem_iff.mp hy) (c.1.trans s.1.symm) c.2 s.2]
set_option tactic.hygienic true in
theorem I5 {xs ys:List Val} (h:Ey xs=some ys):Ie xs /\ Ge xs ys:=by
  unfold Ey at h
  split at h
  · rename_i q
    cases h
    exact ⟨q.1,Classical.choose_spec q.2⟩
  · cases h
noncomputable def Ks (v:Val) (H:Hp):Option (List Val):=match v with
  | .loc l=>(match H[l]? with
    | some (.list xs)=>some xs
    | _=>none)
  | _=>none
noncomputable def Kt:List Val -> Option (List Key)
  | []=>some []
  | v :: vs=>(Ec v).bind fun k=>(Kt vs).map fun ks=>k :: ks
noncomputable def dd:List Key -> List Key
  | []=>[]
  | k :: ks=>if k∈ks then dd ks else k :: dd ks
noncomputable def Tn (v:Val) (H:Hp):Option (List Val):=((Ks v H).bind fun xs=>if xs.length <= 64 then Kt xs else none).bind fun ks=>Ey ((dd ks).map Ad)
noncomputable def Lv (v:Val):M Val:=fun H =>
  match Tn v H with
  | some ys=>M.alloc (.list ys) H
  | none=>.bad
noncomputable def Av (i:Int):Str:=Str.ofString (toString i)
noncomputable def I6:List Val -> Option (List Str)
  | []=>some []
  | .str s :: r=>(I6 r).map (s :: ·)
  | _ :: _=>none
noncomputable def Kg (s:Str):Bool:=s.cps.toList.all fun c=>decide (48 <= c) && decide (c <= 57)
noncomputable def figVal (s:Str):Nat:=s.cps.toList.foldl (fun acc c=>acc * 10+(c - 48)) 0
noncomputable def Ata:Val -> M Val
  | .bool b=>.ret (.int (if b=true then 1 else 0))
  | .str s=>if (Kg s && (decide (1 <= s.length) && decide (s.length <= 640)))=true then .ret (.int (figVal s)) else .bad
  | _=>.bad
noncomputable def To (s:Str) (v:Val):M Val:=.look fun H=>(Ks v H).bind fun xs=>(I6 xs).bind fun ys =>
  if (ys.map (·.length)).sum+ys.length * s.length <= lid then some (.str (Txt.join s ys)) else none
noncomputable def Afq (s:Str) (v:Val):M Val:=fun H =>
  match Tm v with
  | some y=>if (y.length == 0)=false /\ s.length+2 <= lid then M.alloc (.list ((Txt.split s y).map .str)) H else .bad
  | none=>.bad
noncomputable def bfV (f:BF) (args:List Val):M Val :=
  match f,args with
  | .len,[v]=>.look fun H =>
    match v with
    | .str s=>some (.int s.length)
    | v=>(B3 v H).map fun xs=>.int xs.length
  | .range,[.int n]=>if -1073741824 <= n /\ n <= 1073741824 then .ret (.rng n) else .bad
  | .list,[v]=>fun H =>
    match v with
    | .rng n=>if n <= 100000 then M.alloc (.list ((List.range n.toNat).map fun (k:Nat)=>.int (k:Int))) H else .bad
    | .loc _=>match B3 v H with
      | some xs=>M.alloc (.list xs) H
      | none=>.bad
    | _=>.bad
  | .max2,[.int a,.int b]=>.ret (.int (if b > a then b else a))
  | .int,[v]=>Ata v
  | .str,[.int a]=>if small a=true then .ret (.str (Av a)) else .bad
  | _,_=>.bad
noncomputable def bmV (m:BM) (o:Val) (args:List Val):M Val:=fun H =>
  match o with
  | .str s =>
    match m,args with
    | .join,[v]=>To s v H
    | .split,[v]=>Afq s v H
    | _,_=>.bad
  | .loc l =>
    match H[l]? with
    | some (.list xs) =>
      match m,args with
      | .append,[v]=>if xs.length < lid then .ok .none (H.set l (.list (xs++[v]))) else .bad
      | .clear,[]=>.ok .none (H.set l (.list []))
      | _,_=>.bad
    | some (.dict es) =>
      match m,args with
      | .dpop,[k]=>match Ec k with
        | some k=>match Ex es k with
          | some v=>.ok v (H.set l (.dict (M4 es k)))
          | none=>.bad
        | none=>.bad
      | _,_=>.bad
    | _=>.bad
  | _=>.bad
inductive Kd where
  | none | bool | int | str | tuple | list | dict
noncomputable def Qo (H:Hp):Val -> Option Kd
  | .none=>some .none
  | .bool _=>some .bool
  | .int _=>some .int
  | .str _=>some .str
  | .tup _=>some .tuple
  | .script _=>some .list
  | .loc l =>
    match H[l]? with
    | some (.list _)=>some .list
    | some (.dict _)=>some .dict
    | _=>none
  | _=>none
noncomputable def Aat:Ty -> Kd -> Bool
  | .int,.int=>true
  | .int,.bool=>true
  | .bool,.bool=>true
  | .str,.str=>true
  | .tuple,.tuple=>true
  | .list,.list=>true
  | _,_=>false
noncomputable def M5 (o:Option HObj) (d:Nat):Option Val:=match o with
  | some (.inst c _)=>if c=d then some (.bool true) else none
  | _=>none
noncomputable def A4 (T:Tab) (v:Val) (t:Ty):M Val:=.look fun H =>
  match t with
  | .cls d =>
    match v with
    | .loc l=>M5 H[l]? d
    | _=>none
  | t=>(Qo H v).map fun k=>.bool (Aat t k)
noncomputable def M6 (v:Val) (n:Nat):M Val:=.look fun H =>
  match v with
  | .loc l =>
    match H[l]? with
    | some (.inst _ fs)=>fs.lookup n
    | _=>none
  | _=>none
noncomputable def Tj:List (Nat × Val) -> Nat -> Val -> List (Nat × Val)
  | [],n,v=>[(n,v)]
  | (m,u) :: r,n,v=>if m=n then (m,v) :: r else (m,u) :: Tj r n v
theorem M7 {m:Nat} {u:Val} {r:List (Nat × Val)} {n:Nat} {v:Val}:Tj ((m,u) :: r) n v=if m=n then (m,v) :: r else (m,u) :: Tj r n v:=rfl
noncomputable def Bn (o:Val) (n:Nat) (v:Val):M Unit:=fun H =>
  match o with
  | .loc l =>
    match H[l]? with
    | some (.inst c fs)=>.ok () (H.set l (.inst c (Tj fs n v)))
    | _=>.bad
  | _=>.bad
noncomputable def Bw (o i v:Val):M Unit:=fun H =>
  match o with
  | .loc l =>
    match H[l]? with
    | some (.list xs) =>
      match i with
      | .int k=>if 0 <= k /\ k < xs.length then .ok () (H.set l (.list (xs.set k.toNat v))) else .bad
      | _=>.bad
    | some (.dict es) =>
      match Ec i with
      | some k=>if es.length < lid then .ok () (H.set l (.dict (Hq es k v))) else .bad
      | none=>.bad
    | _=>.bad
  | _=>.bad
noncomputable def Qp:BM -> String
  | .append=>"list"
  | .dpop=>"dict"
  | .clear=>"list"
  | .join=>"str"
  | .split=>"str"
noncomputable def I7 (o:Val) (H:Hp):Option String :=
  match o with
  | .str _=>some "str"
  | .loc l =>
    match H[l]? with
    | some (.list _)=>some "list"
    | some (.dict _)=>some "dict"
    | _=>none
  | _=>none
noncomputable def Ez (m:BM) (o:Val) (H:Hp):Option Unit:=if I7 o H=some (Qp m) then some () else none
noncomputable def Dn:Val -> M Bool
  | .bool b=>.ret b
  | _=>.bad
noncomputable abbrev Env':=List (Option Val)
noncomputable abbrev Funs:=Nat -> List Val -> M Val
noncomputable def Ed (chk:Hp -> Bool) (step:Val -> M (Option Val)):List Val -> M (List Val)
  | []=>fun H=>if chk H=true then .ok [] H else .bad
  | x :: xs=>fun H=>if chk H=true then ((step x).bnd fun r=>(Ed chk step xs).bnd fun ys=>.ret (match r with | some y=>y :: ys | none=>ys)) H else .bad
noncomputable def Xn (T:Tab) (Φ:Funs) (c:Nat) (args:List Val):M Val :=
  match T.meth c 0 with
  | some k=>(M.alloc (.inst c [])).bnd fun o=>(Φ k (o :: args)).bnd fun r=>match r with
    | .none=>.ret o
    | _=>.bad
  | none=>.bad
noncomputable def Ee (T:Tab) (o:Val) (m:Nat):M Nat:=.look fun H =>
  match o with
  | .loc l =>
    match H[l]? with
    | some (.inst c _)=>T.meth c m
    | _=>none
  | _=>none
mutual
noncomputable def Ai (T:Tab) (Φ:Funs):ME -> Env' -> M Val
  | .none,_=>.ret .none
  | .bool b,_=>.ret (.bool b)
  | .int i,_=>.ret (.int i)
  | .str s,_=>.ret (.str s)
  | .glob k,_=>.ofOpt T.globs[k]?
  | .var i,Γ=>.ofOpt (match Γ[i]? with | some (some v)=>some v | _=>none)
  | .bin op a b,Γ=>(Ai T Φ a Γ).bnd fun x=>(Ai T Φ b Γ).bnd fun y=>Xl op x y
  | .neg a,Γ=>(Ai T Φ a Γ).bnd fun x=>match x with
    | .int i=>.ret (.int (-i))
    | _=>.bad
  | .not a,Γ=>(Ai T Φ a Γ).bnd fun x=>(Dn x).bnd fun b=>.ret (.bool (!b))
  | .and a b,Γ=>(Ai T Φ a Γ).bnd fun x=>(Dn x).bnd fun t=>match t with
    | true=>Ai T Φ b Γ
    | false=>.ret (.bool false)
  | .or a b,Γ=>(Ai T Φ a Γ).bnd fun x=>(Dn x).bnd fun t=>match t with
    | true=>.ret (.bool true)
    | false=>Ai T Φ b Γ
  | .cmp op a b,Γ=>(Ai T Φ a Γ).bnd fun x=>(Ai T Φ b Γ).bnd fun y=>(M.look (C2 op x y)).bnd fun r=>.ret (.bool r)
  | .cmp2 op1 op2 a b c,Γ=>(Ai T Φ a Γ).bnd fun x=>(Ai T Φ b Γ).bnd fun y=>(M.look (C2 op1 x y)).bnd fun r=>match r with
    | true=>(Ai T Φ c Γ).bnd fun z=>(M.look (C2 op2 y z)).bnd fun r=>.ret (.bool r)
    | false=>.ret (.bool false)
  | .sub a i,Γ=>(Ai T Φ a Γ).bnd fun x=>(Ai T Φ i Γ).bnd fun y=>En x y
  | .slice a lo hi,Γ=>(Ai T Φ a Γ).bnd fun x=>(evalO T Φ lo Γ).bnd fun l=>(evalO T Φ hi Γ).bnd fun h=>I2 x l h
  | .tup es,Γ=>(evalEs T Φ es Γ).bnd fun vs=>.ret (.tup vs)
  | .list es,Γ=>(evalEs T Φ es Γ).bnd fun vs=>M.alloc (.list vs)
  | .dict,_=>M.alloc (.dict [])
  | .attr a n,Γ=>(Ai T Φ a Γ).bnd fun x=>M6 x n
  | .call f es,Γ=>(evalEs T Φ es Γ).bnd fun vs=>Φ f vs
  | .new c es,Γ=>match T.meth c 0 with
    | some _=>(evalEs T Φ es Γ).bnd fun vs=>Xn T Φ c vs
    | none=>M.bad
  | .umeth a m es,Γ=>(Ai T Φ a Γ).bnd fun o=>(Ee T o m).bnd fun k=>(evalEs T Φ es Γ).bnd fun vs=>Φ k (o :: vs)
  | .bf f es,Γ=>(evalEs T Φ es Γ).bnd fun vs=>bfV f vs
  | .bm a m es,Γ=>(Ai T Φ a Γ).bnd fun o=>(M.look (Ez m o)).bnd fun _=>(evalEs T Φ es Γ).bnd fun vs=>bmV m o vs
  | .isinst a t,Γ=>(Ai T Φ a Γ).bnd fun x=>A4 T x t
  | .sset a,Γ=>(Ai T Φ a Γ).bnd Lv
  | .comp elt it cond,Γ=>(Ai T Φ it Γ).bnd fun v=>(M.look (Cj v)).bnd fun p =>
      (M.quiet (Ed (chk p.2 p.1) (fun x=>(evalC T Φ cond (Γ++[some x])).bnd fun b=>match b with
        | true=>(Ai T Φ elt (Γ++[some x])).bnd fun y=>.ret (some y)
        | false=>.ret none) p.1)).bnd fun ys=>if ys.length < lid then M.alloc (.list ys) else .bad
noncomputable def evalO (T:Tab) (Φ:Funs):MEo -> Env' -> M Val
  | .none,_=>.ret .none
  | .some e,Γ=>Ai T Φ e Γ
noncomputable def evalC (T:Tab) (Φ:Funs):MEo -> Env' -> M Bool
  | .none,_=>.ret true
  | .some e,Γ=>(Ai T Φ e Γ).bnd Dn
noncomputable def evalEs (T:Tab) (Φ:Funs):MEs -> Env' -> M (List Val)
  | .nil,_=>.ret []
  | .cons e es,Γ=>(Ai T Φ e Γ).bnd fun v=>(evalEs T Φ es Γ).bnd fun vs=>.ret (v :: vs)
end
inductive ResS where
  | next (Γ:Env') (H:Hp)
  | ret (v:Val) (H:Hp)
  | exc (c:Nat) (Γ:Env') (H:Hp)
  | bad
noncomputable def Fr {α:Type} (m:M α) (Γ:Env') (f:α -> Hp -> ResS) (H:Hp):ResS :=
  match m H with
  | .ok a H'=>f a H'
  | .exc c H'=>.exc c Γ H'
  | .bad=>.bad
noncomputable def M8 (r:ResS) (f:Env' -> Hp -> ResS):ResS :=
  match r with
  | .next Γ H=>f Γ H
  | .ret v H=>.ret v H
  | .exc c Γ H=>.exc c Γ H
  | .bad=>.bad
noncomputable def Fo (chk:Hp -> Bool) (bind:Val -> Env' -> Option Env') (body:Env' -> Hp -> ResS):List Val -> Env' -> Hp -> ResS
  | [],Γ,H=>if chk H=true then .next Γ H else .bad
  | x :: xs,Γ,H=>if chk H=true then (match bind x Γ with
    | some Γ'=>(match body Γ' H with
      | .exc _ _ _=>.bad
      | r=>M8 r (Fo chk bind body xs))
    | none=>.bad) else .bad
theorem M9 {chk:Hp -> Bool} {bind:Val -> Env' -> Option Env'} {body:Env' -> Hp -> ResS} {Γ:Env'} {H:Hp}:Fo chk bind body [] Γ H=if chk H=true then .next Γ H else .bad:=rfl
theorem Ku {chk:Hp -> Bool} {bind:Val -> Env' -> Option Env'} {body:Env' -> Hp -> ResS} {x:Val} {xs:List Val} {Γ:Env'} {H:Hp}:Fo chk bind body (x :: xs) Γ H=if chk H=true then (match bind x Γ with
    | some Γ'=>(match body Γ' H with
      | .exc _ _ _=>.bad
      | r=>M8 r (Fo chk bind body xs))
    | none=>.bad) else .bad:=rfl
noncomputable def turns:Nat:=2 ^ 40
noncomputable def B4:Nat -> List Val -> List Val
  | _,[]=>[]
  | n,a :: as=>.tup [.int n,a] :: B4 (n+1) as
noncomputable def Xu (i:Nat) (v:Val) (Γ:Env'):Option Env':=some (Γ.set i (some v))
noncomputable def Ab1 (i j:Nat) (v:Val) (Γ:Env'):Option Env':=(Aii v).map fun p=>(Γ.set i (some p.1)).set j (some p.2)
noncomputable def I8 (v:Val) (H:Hp):Option (List Val × Nat) :=
  match v with
  | .loc l =>
    match H[l]? with
    | some (.list xs)=>some (xs,l)
    | _=>none
  | _=>none
mutual
noncomputable def Fp (T:Tab) (Φ:Funs):MS -> Env' -> Hp -> ResS
  | .expr e,Γ,H=>Fr (Ai T Φ e Γ) Γ (fun _ H=>.next Γ H) H
  | .assign i e,Γ,H=>Fr (Ai T Φ e Γ) Γ (fun v H=>.next (Γ.set i (some v)) H) H
  | .setattr o n e,Γ,H=>Fr (Ai T Φ e Γ) Γ (fun v=>Fr (Ai T Φ o Γ) Γ fun o=>Fr (Bn o n v) Γ fun _ H=>.next Γ H) H
  | .setitem o i e,Γ,H=>Fr (Ai T Φ e Γ) Γ (fun v=>Fr (Ai T Φ o Γ) Γ fun o=>Fr (Ai T Φ i Γ) Γ fun i=>Fr (Bw o i v) Γ fun _ H=>.next Γ H) H
  | .ret e,Γ,H=>Fr (evalO T Φ e Γ) Γ (fun v H=>.ret v H) H
  | .ite c t f,Γ,H=>Fr ((Ai T Φ c Γ).bnd Dn) Γ (fun b=>match b with
    | true=>execSs T Φ t Γ
    | false=>execSs T Φ f Γ) H
  | .each i it body,Γ,H=>Fr (Ai T Φ it Γ) Γ (fun v=>Fr (M.look (Cj v)) Γ fun p=>Fo (chk p.2 p.1) (Xu i) (execSs T Φ body) p.1 Γ) H
  | .eachEnum i j a body,Γ,H=>Fr (Ai T Φ a Γ) Γ (fun v=>Fr (M.look (I8 v)) Γ fun p=>Fo (chk (some p.2) p.1) (Ab1 i j) (execSs T Φ body) (B4 0 p.1) Γ) H
  | .raise _ _,_,_=>.bad
noncomputable def execSs (T:Tab) (Φ:Funs):MSs -> Env' -> Hp -> ResS
  | .nil,Γ,H=>.next Γ H
  | .cons s ss,Γ,H=>M8 (Fp T Φ s Γ H) (execSs T Φ ss)
end
noncomputable def Ab2:ResS -> Res Val
  | .next _ H'=>.ok .none H'
  | .ret v H'=>.ok v H'
  | .exc _ _ _=>.bad
  | .bad=>.bad
noncomputable def Ahz (T:Tab) (Φ:Funs) (f:MFun) (args:List Val):M Val:=fun H =>
  if args.length=f.arity then Ab2 (execSs T Φ f.body (args.map some++List.replicate f.nvars none) H) else .bad
noncomputable def Ag (T:Tab):Nat -> Funs
  | 0,_,_=>.bad
  | d+1,k,args =>
    match T.funs[k]? with
    | none=>.bad
    | some f=>Ahz T (Ag T d) f args
theorem R8 {T:Tab} {d k:Nat} {args:List Val}:Ag T (d+1) k args=(match T.funs[k]? with
    | none=>.bad
    | some f=>Ahz T (Ag T d) f args):=rfl
theorem Ab3 {T:Tab} {Φ:Funs} {Γ:Env'} (k):Ai T Φ (.glob k) Γ=(.ofOpt T.globs[k]?):=rfl
theorem Afr {T:Tab} {Φ:Funs} {Γ:Env'} (i):Ai T Φ (.var i) Γ=(.ofOpt (match Γ[i]? with | some (some v)=>some v | _=>none)):=rfl
theorem Afs {T:Tab} {Φ:Funs} {Γ:Env'} (a):Ai T Φ (.not a) Γ=((Ai T Φ a Γ).bnd fun x=>(Dn x).bnd fun b=>.ret (.bool (!b))):=rfl
theorem Aft {T:Tab} {Φ:Funs} {Γ:Env'} (a b):Ai T Φ (.and a b) Γ=((Ai T Φ a Γ).bnd fun x=>(Dn x).bnd fun t=>match t with
    | true=>Ai T Φ b Γ
    | false=>.ret (.bool false)):=rfl
theorem Aij {T:Tab} {Φ:Funs} {Γ:Env'} (a b):Ai T Φ (.or a b) Γ=((Ai T Φ a Γ).bnd fun x=>(Dn x).bnd fun t=>match t with
    | true=>.ret (.bool true)
    | false=>Ai T Φ b Γ):=rfl
theorem Afu {T:Tab} {Φ:Funs} {Γ:Env'} (op a b):Ai T Φ (.cmp op a b) Γ=((Ai T Φ a Γ).bnd fun x=>(Ai T Φ b Γ).bnd fun y=>(M.look (C2 op x y)).bnd fun r=>.ret (.bool r)):=rfl
theorem Tp {T:Tab} {Φ:Funs} {Γ:Env'} (op1 op2 a b c):Ai T Φ (.cmp2 op1 op2 a b c) Γ=((Ai T Φ a Γ).bnd fun x=>(Ai T Φ b Γ).bnd fun y=>(M.look (C2 op1 x y)).bnd fun r=>match r with
    | true=>(Ai T Φ c Γ).bnd fun z=>(M.look (C2 op2 y z)).bnd fun r=>.ret (.bool r)
    | false=>.ret (.bool false)):=rfl
theorem I9 {T:Tab} {Φ:Funs} {Γ:Env'} (f es):Ai T Φ (.call f es) Γ=((evalEs T Φ es Γ).bnd fun vs=>Φ f vs):=rfl
theorem Na {T:Tab} {Φ:Funs} {Γ:Env'} (c es):Ai T Φ (.new c es) Γ=(match T.meth c 0 with
    | some _=>(evalEs T Φ es Γ).bnd fun vs=>Xn T Φ c vs
    | none=>M.bad):=rfl
theorem Gf {T:Tab} {Φ:Funs} {Γ:Env'} (a m es):Ai T Φ (.umeth a m es) Γ=((Ai T Φ a Γ).bnd fun o=>(Ee T o m).bnd fun k=>(evalEs T Φ es Γ).bnd fun vs=>Φ k (o :: vs)):=rfl
theorem Tq {T:Tab} {Φ:Funs} {Γ:Env'} (f es):Ai T Φ (.bf f es) Γ=((evalEs T Φ es Γ).bnd fun vs=>bfV f vs):=rfl
theorem Tr {T:Tab} {Φ:Funs} {Γ:Env'} (a m es):Ai T Φ (.bm a m es) Γ=((Ai T Φ a Γ).bnd fun o=>(M.look (Ez m o)).bnd fun _=>(evalEs T Φ es Γ).bnd fun vs=>bmV m o vs):=rfl
theorem E0 {T:Tab} {Φ:Funs} {Γ:Env'} (a t):Ai T Φ (.isinst a t) Γ=((Ai T Φ a Γ).bnd fun x=>A4 T x t):=rfl
theorem Ts {T:Tab} {Φ:Funs} {Γ:Env'} {H:Hp} (i e):Fp T Φ (.assign i e) Γ H=(Fr (Ai T Φ e Γ) Γ (fun v H=>.next (Γ.set i (some v)) H) H):=rfl
theorem Xv {T:Tab} {Φ:Funs} {Γ:Env'} (e es):evalEs T Φ (.cons e es) Γ=((Ai T Φ e Γ).bnd fun v=>(evalEs T Φ es Γ).bnd fun vs=>.ret (v :: vs)):=rfl
end
end Mine.Internal
namespace Mine.Internal
open PySem
theorem Ja {v:Val} {i:Int} (h:Afj v=some i):v=.int i:=by
  cases v with
  | int j=>exact congrArg _ (Option.some.inj h)
  | _=>exact Aa h
theorem Aau {v:Val} {i:Str} (h:Tm v=some i):v=.str i:=by
  cases v with
  | str j=>exact congrArg _ (Option.some.inj h)
  | _=>exact Aa h
theorem Tt {v:Val} {p:Val × Val} (h:Aii v=some p):v=.tup [p.1,p.2]:=by
  cases v with
  | tup vs =>
    cases vs with
    | nil=>exact Aa h
    | cons x vs =>
      cases vs with
      | nil=>exact Aa h
      | cons y vs =>
        cases vs with
        | nil=>exact Option.some.inj h▸rfl
        | cons _ _=>exact Aa h
  | _=>exact Aa h
theorem Ab4 {v:Val} {i:List Val} (h:Akz v=some i):v=.tup i:=by
  cases v with
  | tup j=>exact congrArg _ (Option.some.inj h)
  | _=>exact Aa h
theorem Tu {a:Val} {k:Key} (h:Ec a=some k):a=.tup [.int k.1,.int k.2]:=by
  refine ex1 (Option.bind_eq_some_iff.mp h) fun p zz=>Ac zz fun e h=>?_
  refine ex1 (Option.bind_eq_some_iff.mp h) fun x zz=>Ac zz fun e1 h=>?_
  refine ex1 (Option.map_eq_some_iff.mp h) fun y zz=>Ac zz fun e2 h=>?_
  have q:Val.tup [p.1,p.2]=.tup [.int x,.int y]:=Ja e1▸Ja e2▸rfl
  exact h▸(Tt e).trans q
theorem Tv {f:Val -> Option PyData} {x:Val} {xs:List Val} {ds:List PyData} {C:List PyData -> Prop} (h:Id f (x :: xs)=some ds) (k:∀ d ds',f x=some d -> Id f xs=some ds' -> C (d :: ds')):C ds:=by
  have h:(match f x,Id f xs with
    | some d,some ds=>some (d :: ds)
    | _,_=>none)=some ds:=h
  cases e1:f x with
  | none=>rw [e1] at h;exact Aa h
  | some d =>
    cases e2:Id f xs with
    | none=>rw [e1,e2] at h;exact Aa h
    | some ds'=>rw [e1,e2] at h;exact Option.some.inj h▸k d ds' e1 e2
theorem Xw {H:Hp} {a b:Val} {r:Bool} {C:Bool -> Prop} (h:Ev H a b=some r) (k:∀ x y,Az H Eu a=some x -> Az H Eu b=some y -> C (PyData.eqv x y)):C r:=by
  delta Ev at h
  cases e1:Az H Eu a with
  | none=>rw [e1] at h;exact Aa h
  | some d =>
    cases e2:Az H Eu b with
    | none=>rw [e1,e2] at h;exact Aa h
    | some ds'=>rw [e1,e2] at h;exact Option.some.inj h▸k d ds' e1 e2
theorem Afv {H:Hp} {x:Val} {ys:List Val} {r:Bool} {C:Bool -> Prop} (h:Kr H x ys=some r) (k:∀ d ds,Az H Eu x=some d -> Id (Az H Eu) ys=some ds -> C (ds.any fun y=>PyData.eqv y d)):C r:=by
  delta Kr at h
  cases e1:Az H Eu x with
  | none=>rw [e1] at h;exact Aa h
  | some d =>
    cases e2:Id (Az H Eu) ys with
    | none=>rw [e1,e2] at h;exact Aa h
    | some ds'=>rw [e1,e2] at h;exact Option.some.inj h▸k d ds' e1 e2
theorem Qq {e f:Val -> Val -> Option Bool} {x y:Val} {xs ys:List Val} {r:Bool} (h:lts e f (x :: xs) (y :: ys)=some r):(e x y=some true /\ lts e f xs ys=some r) \/ (e x y=some false /\ f x y=some r):=by
  have h:(match e x y with
    | some true=>lts e f xs ys
    | some false=>f x y
    | none=>none)=some r:=h
  cases q:e x y with
  | none=>rw [q] at h;exact Aa h
  | some b =>
    rw [q] at h
    cases b with
    | true=>exact .inl ⟨rfl,h⟩
    | false=>exact .inr ⟨rfl,h⟩
theorem Aik {n:Nat} {a b:Val} {r:Bool} {C:Val -> Val -> Bool -> Prop} (h:Qm (n+1) a b=some r) (k1:∀ x y,C (.int x) (.int y) (decide (x < y))) (k2:∀ xs ys,lts (Ev []) (Qm n) xs ys=some r -> C (.tup xs) (.tup ys) r):C a b r:=by
  cases a with
  | int x =>
    refine ex1 (Option.map_eq_some_iff.mp h) fun y zz=>Ac zz fun e h=>?_
    exact Ja e▸h▸k1 x y
  | tup xs =>
    refine ex1 (Option.bind_eq_some_iff.mp h) fun ys zz=>Ac zz fun e h=>?_
    exact Ab4 e▸k2 xs ys h
  | _=>exact Aa h
theorem Ail {H:Hp} {a:Val} {l:Nat} {r:Bool} {C:Bool -> Prop} (h:inV a (.loc l) H=some r) (k1:∀ ys,H[l]?=some (.list ys) -> Kr H a ys=some r -> C r) (k2:∀ es k,H[l]?=some (.dict es) -> Ec a=some k -> C (Ex es k).isSome):C r:=by
  delta inV at h
  dsimp only at h
  cases q:H[l]? with
  | none=>rw [q] at h;exact Aa h
  | some o =>
    rw [q] at h
    cases o with
    | list ys=>exact k1 ys q h
    | dict es =>
      dsimp only at h
      cases q2:Ec a with
      | none=>rw [q2] at h;exact Aa h
      | some k=>rw [q2] at h;exact Option.some.inj h▸k2 es k q q2
    | _=>exact Aa h
theorem Afw {a b:Val} {p:Int -> Int -> Bool} {r:Bool} {C:Val -> Val -> Bool -> Prop} (e:Ahy p a b=some r) (k:∀ x y,C (.int x) (.int y) (p x y)):C a b r:=by
  refine ex1 (Option.bind_eq_some_iff.mp e) fun x zz=>Ac zz fun e1 e=>?_
  refine ex1 (Option.map_eq_some_iff.mp e) fun y zz=>Ac zz fun e2 e=>?_
  exact Ja e1▸Ja e2▸e▸k x y
theorem Jb {o:Option Bool} {r:Bool} (h:Xm true o=some r):∃ r',o=some r' /\ r=!r':=by
  cases o with
  | none=>exact Aa h
  | some b=>exact ⟨b,rfl,(Option.some.inj h).symm⟩
theorem Gg {H:Hp} {l:Nat} {xs:List Val} (h:B3 (.loc l) H=some xs):H[l]?=some (.list xs):=by
  delta B3 at h
  dsimp only at h
  cases q:H[l]? with
  | none=>rw [q] at h;exact Aa h
  | some o =>
    rw [q] at h
    cases o with
    | list ys=>cases h;rfl
    | _=>exact Aa h
theorem Xx {H:Hp} {l:Nat} {xs:List Val} {src:Option Nat} (h:Cj (.loc l) H=some (xs,src)):H[l]?=some (.list xs) /\ src=some l:=by
  delta Cj at h
  dsimp only at h
  cases q:H[l]? with
  | none=>rw [q] at h;exact Aa h
  | some o =>
    rw [q] at h
    cases o with
    | list ys =>
      have h:=Option.some.inj h
      exact ⟨congrArg (fun p=>some (HObj.list p.1)) h,(congrArg Prod.snd h).symm⟩
    | _=>exact Aa h
theorem Nb {a:Val} {H:Hp} {xs:List Val} (h:Ks a H=some xs):∃ l,a=.loc l /\ H[l]?=some (.list xs):=by
  cases a with
  | loc l=>exact ⟨l,rfl,Gg h⟩
  | _=>exact Aa h
theorem Qr {l:Nat} {xs:List Val} {H:Hp} (h:chk (some l) xs H=true):H[l]?=some (.list xs):=by
  delta chk at h
  dsimp only at h
  cases q:H[l]? with
  | none=>rw [q] at h;exact Cd h
  | some o =>
    rw [q] at h
    cases o with
    | list ys=>exact congrArg (fun x=>some (HObj.list x)) (Xs _ _ h)
    | _=>exact Cd h
theorem Afx {H:Hp} {l:Nat} {xs:List Val} (h:H[l]?=some (.list xs)):chk (some l) xs H=true:=by
  delta chk;dsimp only;rw [h];exact R7 xs
theorem Aim {H:Hp} {l:Nat} {k:Kd} {C:Kd -> Prop} (h:Qo H (.loc l)=some k) (k1:∀ xs,H[l]?=some (.list xs) -> C .list) (k2:∀ xs,H[l]?=some (.dict xs) -> C .dict):C k:=by
  delta Qo at h
  dsimp only at h
  cases q:H[l]? with
  | none=>rw [q] at h;exact Aa h
  | some o =>
    rw [q] at h
    cases o with
    | list ys=>exact Option.some.inj h▸k1 ys q
    | dict ys=>exact Option.some.inj h▸k2 ys q
    | _=>exact Aa h
theorem Ain {H:Hp} {l:Nat} {xs:List Val} (h:H[l]?=some (.list xs)):Qo H (.loc l)=some .list:=by
  delta Qo;dsimp only;rw [h]
theorem Tw {H:Hp} {l:Nat} {xs:List Val} (h:H[l]?=some (.list xs)):I8 (.loc l) H=some (xs,l):=by
  delta I8;dsimp only;rw [h]
theorem Nc {H:Hp} {l:Nat} {xs:List Val} (h:H[l]?=some (.list xs)):I7 (.loc l) H=some "list":=by
  delta I7;dsimp only;rw [h]
theorem Tx {H:Hp} {l:Nat} {xs:List (Key × Val)} (h:H[l]?=some (.dict xs)):I7 (.loc l) H=some "dict":=by
  delta I7;dsimp only;rw [h]
theorem Ab5 {H:Hp} {l:Nat} {k:String} {C:String -> Prop} (h:I7 (.loc l) H=some k) (k1:∀ xs,H[l]?=some (.list xs) -> C "list") (k2:∀ xs,H[l]?=some (.dict xs) -> C "dict"):C k:=by
  delta I7 at h
  dsimp only at h
  cases q:H[l]? with
  | none=>rw [q] at h;exact Aa h
  | some o =>
    rw [q] at h
    cases o with
    | list ys=>exact Option.some.inj h▸k1 ys q
    | dict ys=>exact Option.some.inj h▸k2 ys q
    | _=>exact Aa h
theorem Xy {H:Hp} {l:Nat} {xs:List Val} (h:H[l]?=some (.list xs)):B3 (.loc l) H=some xs:=by
  delta B3;dsimp only;rw [h]
theorem Ab6 {H:Hp} {l:Nat} {xs:List Val} (h:H[l]?=some (.list xs)):Cj (.loc l) H=some (xs,some l):=by
  delta Cj;dsimp only;rw [h]
theorem Tz (k:Key) (ks:List Key):dd (k :: ks)=if k∈ks then dd ks else k :: dd ks:=rfl
theorem Kv {x:Key}:∀ {ks:List Key},x∈dd ks↔x∈ks
  | []=>Iff.rfl
  | k :: ks=>by
    rw [Tz]
    by_cases h:k∈ks
    · rw [if_pos h,Kv]
      exact ⟨fun q=>.tail _ q,fun q=>(List.mem_cons.mp q).elim (fun e=>e▸h) id⟩
    · rw [if_neg h,List.mem_cons,List.mem_cons,Kv]
theorem Ig:∀ ks:List Key,(dd ks).Nodup
  | []=>.nil
  | k :: ks=>by
    rw [Tz]
    by_cases h:k∈ks
    · rw [if_pos h];exact Ig ks
    · rw [if_neg h];exact List.nodup_cons.mpr ⟨fun q=>h (Kv.mp q),Ig ks⟩
theorem Kw:∀ {xs:List Val} {kl:List Key},Kt xs=some kl -> xs=kl.map Ad
  | [],kl,h=>by cases h;rfl
  | x :: xs,kl,h=>by
    refine ex1 (Option.bind_eq_some_iff.mp h) fun k zz=>Ac zz fun hk h=>?_
    refine ex1 (Option.map_eq_some_iff.mp h) fun ks zz=>Ac zz fun hs zr2=>?_;subst zr2
    rw [Kw hs,Tu hk];rfl
theorem Pb {xs xs' ys:List Val} (p:xs'.Perm xs) (h:Ey xs=some ys):Ey xs'=some ys:=by
  obtain ⟨⟨h1,h2,lt,O⟩,s⟩:=I5 h
  have m:∀ {x},x∈xs' -> x∈xs:=fun h=>p.mem_iff.mp h
  refine I4 ⟨by rw [p.length_eq];exact h1,h2.imp (fun h x hx=>h x (m hx)) (fun h x hx=>h x (m hx)),lt,⟨fun x hx y hy=>O.is x (m hx) y (m hy),fun x hx y hy=>O.asym x (m hx) y (m hy),fun x hx y hy z hz=>O.tr x (m hx) y (m hy) z (m hz),fun x hx y hy=>O.anti x (m hx) y (m hy)⟩⟩ ⟨s.1.trans p.symm,s.2⟩
theorem Pc {o:Option HObj} {d:Nat} {v:Val} (h:M5 o d=some v):∃ fs,o=some (.inst d fs) /\ v=.bool true:=by
  delta M5 at h
  cases o with
  | none=>exact Aa h
  | some o =>
    cases o with
    | inst c fs =>
      by_cases q:c=d
      · subst q
        have h:(if c=c then some (Val.bool true) else none)=some v:=h
        rw [if_pos rfl] at h
        exact ⟨fs,rfl,(Option.some.inj h).symm⟩
      · have h:(if c=d then some (Val.bool true) else none)=some v:=h
        rw [if_neg q] at h
        exact Aa h
    | _=>exact Aa h
end Mine.Internal
set_option maxRecDepth 100000
namespace Mine.Internal
open PySem PySem.W PySem.Spec PySem.Calls PyProof.Rows
section
variable {prog:Program} {w:World} {A:Around} {E:Value -> Shared -> Prop} {s:Shared} {K:Frag} {x D:Addr} {ox:Obj}
theorem R9 {dep:Int} {tk:Tok} {Q:Fin -> Shared -> Prop} (hx:s.heap.get? x=some ox) (hc:ox.cls=.ref D) (h:Q (.done (.ret (.bool true))) s) :
    wpAny (model prog w) A (Builtin.«isinstance.nested» ⟨[.ref x,.ref D,.int dep tk],[]⟩) Q E s:=by
  obtain ⟨h0,g,d,tt,os⟩:=s
  have L0:Looks (model prog w) h0 (typeOf (.ref x)) (.ref D):=hc▸(Looks.ld hx).andThen .now
  unfold Builtin.«isinstance.nested»
  refine wpAny_bind (L0.at ?_)
  rw [if_pos (beq_self_eq_true _)]
  exact wpAny_bind (wpAny_rule (wpAny_bind (wpAny_pure (wpAny_pure h))))
theorem Ab7 {Q:Value -> Shared -> Prop} (hx:s.heap.get? x=some ox) (hc:ox.cls=.ref D) (h:Q (.bool true) s):wpAny (model prog w) A (call (.builtin "isinstance") [.ref x,.ref D]) Q E s :=
  call_isinstance (S:=fun _ R s=>(s.heap.get? x=some ox /\ ox.cls=.ref D) /\ R (.ok (.ret (.bool true))) s)
    (fun _ _ _ _ _ hs=>isinstance_outer (R9 hs.1.1 hs.1.2 hs.2) (by intro q;cases q)) ⟨⟨hx,hc⟩,h⟩
end
end Mine.Internal
namespace Mine.Internal
open PySem
noncomputable abbrev Rho:=List (Addr × Addr)
noncomputable def Aw (ρ:Rho) (a:Addr):Prop:=∃ p∈ρ,a=p.1 \/ a=p.2
noncomputable def Jc (ρ:Rho) (h:Heap) (ρ':Rho):Prop:=∃ e,ρ'=ρ++e /\ ∀ p∈e,h.get? p.1=none /\ h.get? p.2=none
noncomputable def Hr (h h':Heap):Prop:=∀ b o,h.get? b=some o -> ∃ o',h'.get? b=some o'
theorem Hr.refl (h:Heap):Hr h h:=fun _ o e=>⟨o,e⟩
theorem Hr.trans {h h' h'':Heap} (x:Hr h h') (y:Hr h' h''):Hr h h'':=fun b o e=>let ⟨o',e'⟩:=x b o e;y b o' e'
theorem Hr.none {h h':Heap} (x:Hr h h') {a:Addr} (e:h'.get? a=none):h.get? a=none:=by
  cases q:h.get? a with
  | none=>rfl
  | some o=>obtain ⟨o',e'⟩:=x a o q;rw [e] at e';exact Aa e'
theorem Ap (h:Heap):h.get? h.objs.size=none:=by
  cases q:h.get? h.objs.size with
  | none=>rfl
  | some o=>exact absurd (Heap.lt_size q) (Nat.lt_irrefl _)
theorem Ff {h:Heap} {a:Addr} (z:h.objs.size <= a):h.get? a=none:=by
  cases q:h.get? a with
  | none=>rfl
  | some o=>exact absurd (Heap.lt_size q) (Nat.not_lt.mpr z)
noncomputable def Eo (o o':Obj):Prop:=o'=o \/ ((∃ es n,o.data=.dict es n) /\ o'={ o with slots:=o'.slots })
theorem Eo.refl (o:Obj):Eo o o:=.inl rfl
theorem Eo.trans {o o' o'':Obj} (x:Eo o o') (y:Eo o' o''):Eo o o'':=by
  rcases x with rfl | ⟨c,e⟩
  · exact y
  · rcases y with rfl | ⟨_,e'⟩
    · exact .inr ⟨c,e⟩
    · exact .inr ⟨c,by rw [e',e]⟩
theorem Eo.exact {o o':Obj} (x:Eo o o') (n:∀ es n,o.data≠.dict es n):o'=o:=x.elim id fun ⟨⟨es,k,e⟩,_⟩=>absurd e (n es k)
theorem Eo.data {o o':Obj} (x:Eo o o'):o'.data=o.data:=by rcases x with rfl | ⟨_,e⟩;rfl;rw [e]
noncomputable def Aio (ρ:Rho) (h h':Heap):Prop:=∀ b o,h.get? b=some o -> ¬ Aw ρ b -> ∃ o',h'.get? b=some o' /\ Eo o o'
theorem Aio.exact {ρ:Rho} {h h':Heap} (k:Aio ρ h h') {b:Addr} {o:Obj} (e:h.get? b=some o) (n:¬ Aw ρ b) (c:∀ es n,o.data≠.dict es n):h'.get? b=some o:=by
  refine ex1 (k b o e n) fun o' zz=>Ac zz fun e' u=>?_
  rw [e',u.exact c]
noncomputable def Hb (o:Obj):Prop:=(o.cls=.type "tuple" /\ ∃ xs n,o.data=.seq xs n) \/ (o.cls=.type "range" /\ ∃ vs,o.data=.fields vs)
noncomputable def Dg (o:Obj) (C:Addr):Prop:=o.cls=.ref C /\ (∃ vs,o.data=.fields vs) /\ o.dict=none
theorem Hb.notDict {o:Obj} (f:Hb o) (es:Array DictEntry) (n:Nat):o.data≠.dict es n:=by
  rcases f with ⟨_,xs,k,e⟩ | ⟨_,vs,e⟩ <;> rw [e] <;> exact fun q=>nomatch q
theorem Dg.notDict {o:Obj} {C:Addr} (f:Dg o C) (es:Array DictEntry) (n:Nat):o.data≠.dict es n:=by
  refine As f fun _ zn1 _=>?_;obtain ⟨vs,e⟩:=zn1
  rw [e];exact fun q=>nomatch q
theorem Jc.refl (ρ:Rho) (h:Heap):Jc ρ h ρ:=⟨[],by simp,by simp⟩
theorem Jc.owned {ρ ρ':Rho} {h:Heap} (g:Jc ρ h ρ') {a:Addr} (o:Aw ρ' a):Aw ρ a \/ h.get? a=none:=by
  refine ex1 g fun e zz=>Ac zz fun zr1 he=>?_;subst zr1
  refine ex1 o fun p zz=>Ac zz fun hp hpa=>?_
  rcases List.mem_append.mp hp with hp | hp
  · exact .inl ⟨p,hp,hpa⟩
  · right
    rcases hpa with rfl | rfl
    · exact (he p hp).1
    · exact (he p hp).2
theorem Jc.sub {ρ ρ':Rho} {h:Heap} (g:Jc ρ h ρ') {a:Addr} (o:Aw ρ a):Aw ρ' a:=by
  refine ex1 g fun e zz=>Ac zz fun zr1 he=>?_;subst zr1
  refine ex1 o fun p zz=>Ac zz fun hp hpa=>?_
  exact ⟨p,List.mem_append.mpr (.inl hp),hpa⟩
theorem Jc.get {ρ ρ':Rho} {h:Heap} (g:Jc ρ h ρ') {l:Nat} {p:Addr × Addr} (e:ρ[l]?=some p):ρ'[l]?=some p:=by
  refine ex1 g fun e' zz=>Ac zz fun zr1 he=>?_;subst zr1
  obtain ⟨hl,_⟩:=List.getElem?_eq_some_iff.mp e
  rw [List.getElem?_append_left hl,e]
theorem Jc.not {ρ ρ':Rho} {h:Heap} (g:Jc ρ h ρ') {a:Addr} {o:Obj} (n:¬ Aw ρ a) (e:h.get? a=some o):¬ Aw ρ' a:=fun w=>by
  rcases g.owned w with w | w
  · exact n w
  · rw [e] at w;cases w
theorem Jc.trans {ρ ρ' ρ'':Rho} {h h':Heap} (x:Jc ρ h ρ') (y:Jc ρ' h' ρ'') (z:Hr h h'):Jc ρ h ρ'':=by
  refine ex1 x fun e1 zz=>Ac zz fun zr1 h1=>?_;subst zr1
  refine ex1 y fun e2 zz=>Ac zz fun zr1 h2=>?_;subst zr1
  refine ⟨e1++e2,by rw [List.append_assoc],fun p hp=>?_⟩
  rcases List.mem_append.mp hp with hp | hp
  · exact h1 p hp
  · exact ⟨z.none (h2 p hp).1,z.none (h2 p hp).2⟩
structure Step (ρ:Rho) (h:Heap) (ρ':Rho) (h':Heap):Prop where
  more:∃ e,ρ'=ρ++e
  keepT:∀ b o,h.get? b=some o -> Hb o -> ¬ Aw ρ b -> h'.get? b=some o /\ ¬ Aw ρ' b
  keepC:∀ b o C,h.get? b=some o -> Dg o C -> ¬ Aw ρ b -> ∃ o',h'.get? b=some o' /\ Dg o' C /\ ¬ Aw ρ' b
theorem Step.get {ρ ρ':Rho} {h h':Heap} (st:Step ρ h ρ' h') {l:Nat} {p:Addr × Addr} (e:ρ[l]?=some p):ρ'[l]?=some p:=by
  obtain ⟨e',rfl⟩:=st.more
  obtain ⟨hl,_⟩:=List.getElem?_eq_some_iff.mp e
  rw [List.getElem?_append_left hl,e]
structure Full (ρ:Rho) (h:Heap) (ρ':Rho) (h':Heap):Prop where
  grow:Jc ρ h ρ'
  keep:Aio ρ h h'
  live:Hr h h'
theorem Full.step {ρ ρ':Rho} {h h':Heap} (x:Full ρ h ρ' h'):Step ρ h ρ' h' :=
  ⟨let ⟨e,h1,_⟩:=x.grow;⟨e,h1⟩,fun b o e f n=>⟨x.keep.exact e n f.notDict,x.grow.not n e⟩,fun b o C e c n=>⟨o,x.keep.exact e n c.notDict,c,x.grow.not n e⟩⟩
theorem Full.refl (ρ:Rho) (h:Heap):Full ρ h ρ h:=⟨Jc.refl ρ h,fun _ o e _=>⟨o,e,.refl o⟩,.refl h⟩
theorem Step.refl (ρ:Rho) (h:Heap):Step ρ h ρ h:=(Full.refl ρ h).step
theorem Full.trans {ρ ρ' ρ'':Rho} {h h' h'':Heap} (x:Full ρ h ρ' h') (y:Full ρ' h' ρ'' h''):Full ρ h ρ'' h'' :=
  ⟨x.grow.trans y.grow x.live,fun b o e n=>by
      refine ex1 (x.keep b o e n) fun o' zz=>Ac zz fun e' u=>?_
      refine ex1 (y.keep b o' e' (x.grow.not n e)) fun o'' zz=>Ac zz fun e'' u'=>?_
      exact ⟨o'',e'',u.trans u'⟩,x.live.trans y.live⟩
theorem Full.more {ρ:Rho} {h h':Heap} (k:∀ b o,h.get? b=some o -> h'.get? b=some o):Full ρ h ρ h' :=
  ⟨Jc.refl ρ h,fun b o e _=>⟨o,k b o e,.refl o⟩,fun b o e=>⟨o,k b o e⟩⟩
theorem Full.push (ρ:Rho) (h:Heap) (o:Obj):Full ρ h ρ (h.push o):=Full.more fun _ _ e=>Heap.get?_push_of_some _ e
theorem Full.alloc {ρ:Rho} {h h':Heap} {p:Addr × Addr} (k:∀ b o,h.get? b=some o -> h'.get? b=some o) (hp:h.get? p.1=none /\ h.get? p.2=none):Full ρ h (ρ++[p]) h' :=
  ⟨⟨[p],rfl,fun q hq=>by rw [List.mem_singleton.mp hq];exact hp⟩,fun b o e _=>⟨o,k b o e,.refl o⟩,fun b o e=>⟨o,k b o e⟩⟩
theorem Step.ext {ρ:Rho} {h h':Heap} {a:Addr} {o:Obj} (e:h.get? a=some o) (hs:Heap.ExtBut a h h') (n1:¬ Hb o) (n2:∀ C,¬ Dg o C):Step ρ h ρ h' :=
  ⟨⟨[],by simp⟩,fun b ob eb f no=>⟨hs b ob (fun q=>by subst q;rw [e] at eb;cases eb;exact n1 f) eb,no⟩,
    fun b ob C eb c no=>⟨ob,hs b ob (fun q=>by subst q;rw [e] at eb;cases eb;exact n2 C c) eb,c,no⟩⟩
theorem SameBut.live {h h':Heap} {a:Addr} {o':Obj} (hs:Heap.SameBut a h h') (e':h'.get? a=some o'):Hr h h':=fun b o e=>by
  by_cases q:b=a
  · subst q;exact ⟨o',e'⟩
  · exact ⟨o,by rw [hs.2 b q];exact e⟩
theorem Step.but {ρ:Rho} {h h':Heap} {a:Addr} {o o':Obj} (e':h'.get? a=some o') (e:h.get? a=some o) (hs:Heap.SameBut a h h') (n1:¬ Hb o) (n2:∀ C,¬ Dg o C):Step ρ h ρ h' :=
  ⟨⟨[],by simp⟩,fun b ob eb f no=>by
      by_cases q:b=a
      · subst q;rw [e] at eb;cases eb;exact absurd f n1
      · rw [hs.2 b q];exact ⟨eb,no⟩,
    fun b ob C eb c no=>by
      by_cases q:b=a
      · subst q;rw [e] at eb;cases eb;exact absurd c (n2 C)
      · exact ⟨ob,by rw [hs.2 b q];exact eb,c,no⟩⟩
theorem Full.own {ρ:Rho} {h h':Heap} {a:Addr} {o':Obj} (o:Aw ρ a) (e':h'.get? a=some o') (hs:Heap.SameBut a h h'):Full ρ h ρ h' :=
  ⟨Jc.refl ρ h,fun b ob eb n=>by
      have q:b≠a:=fun q=>n (q▸o)
      exact ⟨ob,by rw [hs.2 b q];exact eb,.refl ob⟩,SameBut.live hs e'⟩
structure Cx where
  prog:Program
  w:World
  T:Tab
  s₀:Shared
  cls:List Value
  attrs:List Str
  fns:List Addr
noncomputable def Cx.h₀ (cx:Cx):Heap:=cx.s₀.heap
noncomputable def A8 (vs:List Value) (n:Nat):Obj:={ cls:=.type "list",dict:=none,data:=.seq vs.toArray n,slots:=#[] }
noncomputable def T0 (vs:List Value) (n:Nat):Obj:={ cls:=.type "tuple",dict:=none,data:=.seq vs.toArray n,slots:=#[] }
mutual
inductive VR (cx:Cx) (ρ:Rho) (h:Heap):Val -> Value -> Prop
  | none:VR cx ρ h .none .none
  | bool (b:Bool):VR cx ρ h (.bool b) (.bool b)
  | int (i:Int) (t:Tok):VR cx ρ h (.int i) (.int i t)
  | str (s:Str) (t:Tok):s.length <= sizeLine -> VR cx ρ h (.str s) (.str s t)
  | tup {a:Addr} {vs:List Value} {n:Nat} {ms:List Val}:h.get? a=some (T0 vs n) -> ¬ Aw ρ a -> ms.length <= sizeLine -> VRs cx ρ h ms vs -> VR cx ρ h (.tup ms) (.ref a)
  | loc {l:Nat} {p:Addr × Addr}:ρ[l]?=some p -> VR cx ρ h (.loc l) (.ref p.1)
  | script {a:Addr} {vs:List Value} {n:Nat} {ns:List Int}:cx.h₀.get? a=some (A8 vs n) -> ns.length <= sizeLine -> VRs cx ρ h (ns.map .int) vs -> VR cx ρ h (.script ns) (.ref a)
  | rng {a:Addr} {i:Int} {t u v:Tok}:IsRange h a 0 i 1 t u v -> ¬ Aw ρ a -> -(2 ^ 62) <= i -> i < 2 ^ 62 -> VR cx ρ h (.rng i) (.ref a)
  | exc {a:Addr} {o:Obj} {c:Nat} {C:Addr}:h.get? a=some o -> ¬ Aw ρ a -> cx.cls[c]?=some (.ref C) -> Dg o C -> VR cx ρ h (.exc c) (.ref a)
inductive VRs (cx:Cx) (ρ:Rho) (h:Heap):List Val -> List Value -> Prop
  | nil:VRs cx ρ h [] []
  | cons {m:Val} {v:Value} {ms:List Val} {vs:List Value}:VR cx ρ h m v -> VRs cx ρ h ms vs -> VRs cx ρ h (m :: ms) (v :: vs)
end
theorem VRs.step {cx:Cx} {ρ ρ':Rho} {h h':Heap} (st:Step ρ h ρ' h') {ms:List Val} {vs:List Value} (r:VRs cx ρ h ms vs):VRs cx ρ' h' ms vs :=
  VRs.rec (motive_1:=fun m v _=>VR cx ρ' h' m v) (motive_2:=fun ms vs _=>VRs cx ρ' h' ms vs) .none .bool .int .str
    (fun e n z _ r=>.tup (st.keepT _ _ e (.inl ⟨rfl,_,_,rfl⟩) n).1 (st.keepT _ _ e (.inl ⟨rfl,_,_,rfl⟩) n).2 z r)
    (fun e=>.loc (st.get e)) (fun e z _ r=>.script e z r)
    (fun e n z1 z2=>.rng (st.keepT _ _ e (.inr ⟨rfl,_,rfl⟩) n).1 (st.keepT _ _ e (.inr ⟨rfl,_,rfl⟩) n).2 z1 z2)
    (fun e n k c=>(st.keepC _ _ _ e c n).elim fun o' w=>.exc w.1 w.2.2 k w.2.1) .nil (fun _ _ a r=>.cons a r) r
theorem VRs.head {cx:Cx} {ρ:Rho} {h:Heap} {m:Val} {v:Value} {ms:List Val} {vs:List Value} (r:VRs cx ρ h (m :: ms) (v :: vs)):VR cx ρ h m v:=by
  cases r;assumption
theorem VR.step {cx:Cx} {ρ ρ':Rho} {h h':Heap} (st:Step ρ h ρ' h') {m:Val} {v:Value} (x:VR cx ρ h m v):VR cx ρ' h' m v:=(VRs.step st (.cons x .nil)).head
section
variable {cx:Cx} {ρ:Rho} {h:Heap} {ms ms':List Val} {vs vs':List Value} {m:Val} {v:Value}
theorem VRs.length (r:VRs cx ρ h ms vs):ms.length=vs.length:=by
  induction ms generalizing vs with
  | nil=>cases r;rfl
  | cons m ms ih=>cases r with | cons a r=>rw [List.length_cons,List.length_cons,ih r]
theorem VRs.append (r:VRs cx ρ h ms vs) (r':VRs cx ρ h ms' vs'):VRs cx ρ h (ms++ms') (vs++vs'):=by
  induction ms generalizing vs with
  | nil=>cases r;exact r'
  | cons m ms ih=>cases r with | cons a r=>exact .cons a (ih r)
theorem VRs.get (r:VRs cx ρ h ms vs) {k:Nat} (e:ms[k]?=some m):∃ v,vs[k]?=some v /\ VR cx ρ h m v:=by
  induction ms generalizing vs k with
  | nil=>simp at e
  | cons m' ms ih =>
    cases r with
    | cons a r =>
      cases k with
      | zero=>simp at e;refine e▸?_;exact ⟨_,by simp,a⟩
      | succ k=>simp at e;refine ex1 (ih r e) fun v zz=>Ac zz fun hv hr=>?_;exact ⟨v,by simpa using hv,hr⟩
theorem VRs.one (r:VR cx ρ h m v):VRs cx ρ h [m] [v]:=.cons r .nil
theorem VRs.set (r:VRs cx ρ h ms vs) (k:Nat) (a:VR cx ρ h m v):VRs cx ρ h (ms.set k m) (vs.set k v):=by
  induction ms generalizing vs k with
  | nil=>cases r;exact .nil
  | cons m' ms ih =>
    cases r with
    | cons b r =>
      cases k with
      | zero=>exact .cons a r
      | succ k=>exact .cons b (ih r k)
theorem VRs.take (r:VRs cx ρ h ms vs) (k:Nat):VRs cx ρ h (ms.take k) (vs.take k):=by
  induction ms generalizing vs k with
  | nil=>cases r;simp;exact .nil
  | cons m' ms ih =>
    cases r with
    | cons b r =>
      cases k with
      | zero=>exact .nil
      | succ k=>exact .cons b (ih r k)
theorem VRs.drop (r:VRs cx ρ h ms vs) (k:Nat):VRs cx ρ h (ms.drop k) (vs.drop k):=by
  induction ms generalizing vs k with
  | nil=>cases r;simp;exact .nil
  | cons m' ms ih =>
    cases r with
    | cons b r =>
      cases k with
      | zero=>exact .cons b r
      | succ k=>exact ih r k
theorem VRs.eraseIdx (r:VRs cx ρ h ms vs) (k:Nat):VRs cx ρ h (ms.eraseIdx k) (vs.eraseIdx k):=by
  induction ms generalizing vs k with
  | nil=>cases r;simp;exact .nil
  | cons m' ms ih =>
    cases r with
    | cons b r =>
      cases k with
      | zero=>exact r
      | succ k=>exact .cons b (ih r k)
theorem VRs.replicate (a:VR cx ρ h m v) (n:Nat):VRs cx ρ h (List.replicate n m) (List.replicate n v):=by
  induction n with
  | zero=>exact .nil
  | succ n ih=>exact .cons a ih
end
noncomputable abbrev cellKind (cx:Cx):HeapKind cx.prog cx.w (List Int):=tupleKind (intKind cx.prog cx.w)
inductive DRs (cx:Cx) (ρ:Rho) (h:Heap):List (Key × Val) -> List (List Int × Addr × Value) -> Prop
  | nil:DRs cx ρ h [] []
  | cons {k:Key} {v:Val} {b:Addr} {x:Value} {es:List (Key × Val)} {xs:List (List Int × Addr × Value)} :
      VR cx ρ h v x -> VR cx ρ h (Ad k) (.ref b) -> DRs cx ρ h es xs -> DRs cx ρ h ((k,v) :: es) (([k.1,k.2],b,x) :: xs)
theorem DRs.step {cx:Cx} {ρ ρ':Rho} {h h':Heap} (st:Step ρ h ρ' h') {es:List (Key × Val)} {xs:List (List Int × Addr × Value)} (r:DRs cx ρ h es xs):DRs cx ρ' h' es xs:=by
  induction r with
  | nil=>exact .nil
  | @cons k v b x es xs a n _ ih=>exact .cons (a.step st) (n.step st) ih
theorem VR.free {cx:Cx} {ρ:Rho} {h:Heap} {vs:List Val} {b:Addr} (x:VR cx ρ h (.tup vs) (.ref b)):¬ Aw ρ b:=by
  cases x with
  | tup _ no _ _=>exact no
inductive HR (cx:Cx) (ρ:Rho) (h:Heap):HObj -> Addr × Addr -> Prop
  | list {a:Addr} {vs:List Value} {n:Nat} {xs:List Val}:h.get? a=some (A8 vs n) -> VRs cx ρ h xs vs -> xs.length <= sizeLine -> HR cx ρ h (.list xs) (a,a)
  | dict {a:Addr} {es:List (Key × Val)} {xs:List (List Int × Addr × Value)}:h.DictOfH (cellKind cx) a xs -> DRs cx ρ h es xs -> es.length <= sizeLine -> HR cx ρ h (.dict es) (a,a)
  | inst {a d C:Addr} {o:Obj} {c:Nat} {fs:List (Nat × Val)} {mA:Str -> Option Value}:(cx.T.meth c 0).isSome=true -> cx.cls[c]?=some (.ref C) -> h.get? a=some o -> o.cls=.ref C -> (∀ c,o.data≠.cls c) -> o.dict=some d -> d≠a -> h.Ns1 d mA ->
      (∀ n v,fs.lookup n=some v -> ∃ y x,cx.attrs[n]?=some y /\ mA y=some x /\ VR cx ρ h v x) ->
      (∀ y,mA y≠none -> ∃ n v,cx.attrs[n]?=some y /\ fs.lookup n=some v) ->
      HR cx ρ h (.inst c fs) (a,d)
  | hid {a:Addr} {x y:Value}:h.get? a=some (T0 [x,y] 0) -> HR cx ρ h .hid (a,a)
structure Rel (cx:Cx) (H:Hp) (ρ:Rho) (s:Shared):Prop where
  len:H.length=ρ.length
  objs:∀ (l:Nat) (o:HObj) (p:Addr × Addr),H[l]?=some o -> ρ[l]?=some p -> HR cx ρ s.heap o p
  apart:∀ (i j:Nat) (p q:Addr × Addr),i≠j -> ρ[i]?=some p -> ρ[j]?=some q -> (p.1≠q.1 /\ p.1≠q.2) /\ (p.2≠q.1 /\ p.2≠q.2)
  new:∀ p∈ρ,cx.h₀.get? p.1=none /\ cx.h₀.get? p.2=none
  base:∀ b o,cx.h₀.get? b=some o -> s.heap.get? b=some o
  sys:∃ o,cx.h₀.get? sysModules=some o
  rest:∃ h tk,s={ cx.s₀ with heap:=h,toks:=tk }
theorem Rel.size {cx:Cx} {H:Hp} {ρ:Rho} {s:Shared} (R:Rel cx H ρ s):∀ p∈ρ,(∃ o,s.heap.get? p.1=some o) /\ ∃ o,s.heap.get? p.2=some o:=by
  intro p hp
  refine ex1 (List.mem_iff_getElem.mp hp) fun l zz=>ex1 zz fun hl e=>?_
  have e':ρ[l]?=some p:=by rw [List.getElem?_eq_getElem hl,e]
  have hH:l < H.length:=by rw [R.len];exact hl
  obtain ⟨ob,hob⟩:∃ ob,H[l]?=some ob:=⟨_,List.getElem?_eq_getElem hH⟩
  have:=R.objs l ob p hob e'
  clear e e'
  cases this with
  | list q _ _=>exact ⟨⟨_,q⟩,_,q⟩
  | dict q _ _=>refine ex3 q fun o _ _ zz=>Ac zz fun q _=>?_;exact ⟨⟨_,q⟩,_,q⟩
  | inst _ _ q _ _ _ _ n _ _=>refine ex3 n fun o' _ _ zz=>Ac zz fun q' _=>?_;exact ⟨⟨_,q⟩,_,q'⟩
  | hid q=>exact ⟨⟨_,q⟩,_,q⟩
theorem Rel.owned_lt {cx:Cx} {H:Hp} {ρ:Rho} {s:Shared} (R:Rel cx H ρ s) {a:Addr} (o:Aw ρ a):∃ o,s.heap.get? a=some o:=by
  obtain ⟨p,hp,rfl | rfl⟩:=o
  · exact (R.size p hp).1
  · exact (R.size p hp).2
theorem Rel.owned_new {cx:Cx} {H:Hp} {ρ:Rho} {s:Shared} (R:Rel cx H ρ s) {a:Addr} (o:Aw ρ a):cx.h₀.get? a=none:=by
  obtain ⟨p,hp,rfl | rfl⟩:=o
  · exact (R.new p hp).1
  · exact (R.new p hp).2
theorem Rel.base_not {cx:Cx} {H:Hp} {ρ:Rho} {s:Shared} (R:Rel cx H ρ s) {a:Addr} {o:Obj} (e:cx.h₀.get? a=some o):¬ Aw ρ a:=fun w=>by rw [R.owned_new w] at e;exact Aa e
theorem HR.step {cx:Cx} {ρ ρ':Rho} {h h':Heap} {o:HObj} {p:Addr × Addr} (x:HR cx ρ h o p) (st:Step ρ h ρ' h') (k:∀ b ob,(b=p.1 \/ b=p.2) -> h.get? b=some ob -> h'.get? b=some ob):HR cx ρ' h' o p:=by
  cases x with
  | list e r z=>exact .list (k _ _ (.inl rfl) e) (r.step st) z
  | @dict a es xs D r z =>
    obtain ⟨ob,es',ep,e,ex,d,el,ks,nd⟩:=D
    have ks':∀ x∈xs,(cellKind cx).is h' x.1 x.2.1:=by
      intro x hx
      obtain ⟨ok,items,n,hk,hc,hd',rest⟩:=ks x hx
      refine ⟨ok,items,n,(st.keepT _ _ hk (.inl ⟨hc,_,_,hd'⟩) ?_).1,hc,hd',rest⟩
      clear rest el nd z ks d ex e k
      induction r with
      | nil=>cases hx
      | cons a n _ ih =>
        cases hx with
        | head=>exact VR.free n
        | tail _ hx=>exact ih hx
    exact .dict ⟨ob,es',ep,k _ _ (.inl rfl) e,ex,d,el,ks',nd⟩ (r.step st) z
  | hid e=>exact .hid (k _ _ (.inl rfl) e)
  | inst c0 c e k1 k2 k3 k4 n f g =>
    refine .inst c0 c (k _ _ (.inl rfl) e) k1 k2 k3 k4 (n.at fun o e=>k _ _ (.inr rfl) e) (fun i v hv=>?_) g
    refine Ah fun G kG=>?_
    obtain ⟨y,x,h1,h2,h3⟩:=f i v hv
    refine kG ?_
    exact ⟨y,x,h1,h2,h3.step st⟩
section
variable {cx:Cx} {H:Hp} {ρ:Rho} {s:Shared}
theorem Rel.same (R:Rel cx H ρ s) {h':Heap} {tk:Nat} (st:Step ρ s.heap ρ h') (ko:∀ b o,Aw ρ b -> s.heap.get? b=some o -> h'.get? b=some o) (kb:∀ b o,cx.h₀.get? b=some o -> h'.get? b=some o) :
    Rel cx H ρ { s with heap:=h',toks:=tk }:=by
  refine ⟨R.len,fun l o p hl hp=>?_,R.apart,R.new,kb,R.sys,?_⟩
  · refine (R.objs l o p hl hp).step st fun b ob hb e=>ko b ob ⟨p,List.mem_of_getElem? hp,hb⟩ e
  · refine ex2 R.rest fun h t hr0=>?_;refine Eq.symm hr0▸?_
    exact ⟨h',tk,rfl⟩
theorem Rel.toks (R:Rel cx H ρ s) (tk:Nat):Rel cx H ρ { s with toks:=tk } :=
  R.same (h':=s.heap) (Step.refl _ _) (fun _ _ _ e=>e) R.base
theorem Rel.more (R:Rel cx H ρ s) {h':Heap} {tk:Nat} (k:∀ b o,s.heap.get? b=some o -> h'.get? b=some o):Rel cx H ρ { s with heap:=h',toks:=tk } :=
  R.same (Full.more k).step (fun b o _ e=>k b o e) fun b o e=>k b o (R.base b o e)
theorem Rel.push (R:Rel cx H ρ s) (o:Obj) (tk:Nat):Rel cx H ρ { s with heap:=s.heap.push o,toks:=tk } :=
  R.more fun _ _ e=>Heap.get?_push_of_some _ e
theorem Rel.but (R:Rel cx H ρ s) {h':Heap} {tk:Nat} {a:Addr} {o:Obj} {o':Obj} (e':h'.get? a=some o') (e:s.heap.get? a=some o) (hs:Heap.SameBut a s.heap h') (n1:¬ Hb o) (n2:∀ C,¬ Dg o C) (no:¬ Aw ρ a) (nb:cx.h₀.get? a=none) :
    Rel cx H ρ { s with heap:=h',toks:=tk } :=
  R.same (Step.but e' e hs n1 n2) (fun b ob ho eb=>by rw [hs.2 b (fun q=>no (q▸ho))];exact eb) fun b ob eb=>by
    rw [hs.2 b (fun q=>by subst q;rw [nb] at eb;exact nomatch eb)];exact R.base b ob eb
theorem Rel.fresh_not (R:Rel cx H ρ s) {a:Addr} (ha:s.heap.get? a=none):¬ Aw ρ a:=fun w=>by obtain ⟨o,e⟩:=R.owned_lt w;rw [ha] at e;exact Aa e
theorem Rel.alloc (R:Rel cx H ρ s) {h':Heap} {tk:Nat} {o:HObj} {p:Addr × Addr} (k:∀ b o,s.heap.get? b=some o -> h'.get? b=some o)
    (hp:s.heap.get? p.1=none /\ s.heap.get? p.2=none) (x:HR cx (ρ++[p]) h' o p):Full ρ s.heap (ρ++[p]) h' /\ Rel cx (H++[o]) (ρ++[p]) { s with heap:=h',toks:=tk }:=by
  have F:Full ρ s.heap (ρ++[p]) h':=⟨⟨[p],rfl,fun q hq=>by rw [List.mem_singleton.mp hq];exact hp⟩,fun b o e _=>⟨o,k b o e,.refl o⟩,fun b o e=>⟨o,k b o e⟩⟩
  refine ⟨F,⟨by rw [List.length_append,List.length_append,R.len];rfl,fun l ob q hl hq=>?_,fun i j q r hij hi hj=>?_,fun q hq=>?_,fun b o e=>k b o (R.base b o e),R.sys,?_⟩⟩
  · by_cases lt:l < H.length
    · rw [List.getElem?_append_left lt] at hl
      rw [List.getElem?_append_left (by rw [<- R.len];exact lt)] at hq
      exact (R.objs l ob q hl hq).step F.step fun b ob _ e=>k b ob e
    · have hl':=(List.getElem?_eq_some_iff.mp hl).1
      have le:l=H.length:=by rw [List.length_append] at hl';simp at hl';exact o1 hl' lt
      subst le
      rw [List.getElem?_append_right (Nat.le_refl _)] at hl
      rw [List.getElem?_append_right (by rw [R.len];exact Nat.le_refl _)] at hq
      rw [R.len] at hq
      simp at hl hq
      subst hl hq
      exact x
  · have old:∀ {i:Nat} {q:Addr × Addr},ρ[i]?=some q -> (∃ o,s.heap.get? q.1=some o) /\ ∃ o,s.heap.get? q.2=some o:=fun h=>R.size _ (List.mem_of_getElem? h)
    have ne:∀ {a b:Addr},(∃ o,s.heap.get? a=some o) -> s.heap.get? b=none -> a≠b:=fun ⟨o,e⟩ n q=>by rw [q,n] at e;exact Aa e
    have at':∀ {i:Nat} {q:Addr × Addr},(ρ++[p])[i]?=some q -> ρ[i]?=some q \/ (i=ρ.length /\ q=p):=by
      intro i q h
      by_cases lt:i < ρ.length
      · rw [List.getElem?_append_left lt] at h;exact .inl h
      · have hl':=(List.getElem?_eq_some_iff.mp h).1
        have le:i=ρ.length:=by rw [List.length_append] at hl';simp at hl';exact o1 hl' lt
        subst le
        rw [List.getElem?_append_right (Nat.le_refl _)] at h
        simp at h
        exact .inr ⟨rfl,h.symm⟩
    rcases at' hi with hi' | ⟨hi',eq⟩ <;> rcases at' hj with hj' | ⟨hj',er⟩
    · exact R.apart i j q r hij hi' hj'
    · have q:=old hi';rw [er];exact ⟨⟨ne q.1 hp.1,ne q.1 hp.2⟩,ne q.2 hp.1,ne q.2 hp.2⟩
    · have q:=old hj';rw [eq];exact ⟨⟨(ne q.1 hp.1).symm,(ne q.2 hp.1).symm⟩,(ne q.1 hp.2).symm,(ne q.2 hp.2).symm⟩
    · exact absurd (hi'.trans hj'.symm) hij
  · rcases List.mem_append.mp hq with hq | hq
    · exact R.new q hq
    · have lv:Hr cx.h₀ s.heap:=fun b o e=>⟨o,R.base b o e⟩
      rw [List.mem_singleton.mp hq];exact ⟨lv.none hp.1,lv.none hp.2⟩
  · refine ex2 R.rest fun h t hr0=>?_;refine Eq.symm hr0▸?_
    exact ⟨h',tk,rfl⟩
theorem Rel.set (R:Rel cx H ρ s) {l:Nat} {h':Heap} {tk:Nat} {o:HObj} {p:Addr × Addr} (hl:ρ[l]?=some p) (k:∀ b o,s.heap.get? b=some o -> b≠p.1 -> b≠p.2 -> h'.get? b=some o) (z:Hr s.heap h')
    (x:HR cx ρ h' o p):Full ρ s.heap ρ h' /\ Rel cx (H.set l o) ρ { s with heap:=h',toks:=tk }:=by
  have own:∀ b,¬ Aw ρ b -> b≠p.1 /\ b≠p.2:=fun b n=>⟨fun e=>n ⟨p,List.mem_of_getElem? hl,.inl e⟩,fun e=>n ⟨p,List.mem_of_getElem? hl,.inr e⟩⟩
  have F:Full ρ s.heap ρ h':=⟨Jc.refl _ _,fun b ob e n=>⟨ob,k b ob e (own b n).1 (own b n).2,.refl ob⟩,z⟩
  refine ⟨F,⟨by rw [List.length_set,R.len],fun i ob q hi hq=>?_,R.apart,R.new,fun b ob e=>?_,R.sys,?_⟩⟩
  · by_cases e:i=l
    · subst e
      rw [hl] at hq;cases hq
      have lt:i < H.length:=by rw [R.len];exact (List.getElem?_eq_some_iff.mp hl).1
      rw [List.getElem?_set_self lt] at hi
      cases hi;exact x
    · rw [List.getElem?_set_ne (fun q=>e q.symm)] at hi
      refine (R.objs i ob q hi hq).step F.step fun b ob' hb eb=>?_
      refine As (R.apart i l q p e hq hl) fun zn0 a3 a4=>?_;obtain ⟨a1,a2⟩:=zn0
      rcases hb with rfl | rfl
      · exact k _ _ eb a1 a2
      · exact k _ _ eb a3 a4
  · have n:=R.base_not e
    exact k b ob (R.base b ob e) (own b n).1 (own b n).2
  · refine ex2 R.rest fun h t hr0=>?_;refine Eq.symm hr0▸?_
    exact ⟨h',tk,rfl⟩
end
structure Amb where
  P:Rho -> Heap -> Prop
  st:∀ ρ h ρ' h',P ρ h -> Full ρ h ρ' h' -> P ρ' h'
noncomputable def Amb.and (P Q:Amb):Amb:=⟨fun ρ h=>P.P ρ h /\ Q.P ρ h,fun ρ h ρ' h' x f=>⟨P.st _ _ _ _ x.1 f,Q.st _ _ _ _ x.2 f⟩⟩
noncomputable def Amb.tt:Amb:=⟨fun _ _=>True,fun _ _ _ _ _ _=>trivial⟩
noncomputable def Amb.prop (p:Prop):Amb:=⟨fun _ _=>p,fun _ _ _ _ x _=>x⟩
noncomputable def Amb.vr (cx:Cx) (m:Val) (v:Value):Amb:=⟨fun ρ h=>VR cx ρ h m v,fun _ _ _ _ x f=>x.step f.step⟩
noncomputable def Amb.vrs (cx:Cx) (ms:List Val) (vs:List Value):Amb:=⟨fun ρ h=>VRs cx ρ h ms vs,fun _ _ _ _ x f=>x.step f.step⟩
structure Flying (cx:Cx) (ρ:Rho) (h h':Heap) (c:Nat) (e:Value):Prop where
  is:∃ (a C:Addr) (vs:Array Value),e=.ref a /\ cx.cls[c]?=some (.ref C) /\ h.get? a=none /\ h'.get? a=some { cls:=.ref C,dict:=none,data:=.fields vs,slots:=#[] } /\ vs.size=6 /\ ¬ Aw ρ a /\
    (vs[1]?=some .none \/ ∃ (tb:Addr) (tvs:Array Value),vs[1]?=some (.ref tb) /\ h.get? tb=none /\ h'.get? tb=some { cls:=.type "traceback",dict:=none,data:=.fields tvs,slots:=#[] } /\ tvs.size=11 /\ ¬ Aw ρ tb)
theorem Flying.older {cx:Cx} {ρ:Rho} {h₁ h h':Heap} {c:Nat} {e:Value} (x:Flying cx ρ h h' c e) (z:Hr h₁ h):Flying cx ρ h₁ h' c e:=by
  refine ex3 x.is fun a C vs zz=>R6 zz fun e1 e2 e3 e4 e5 e6 e7=>?_
  refine ⟨a,C,vs,e1,e2,z.none e3,e4,e5,e6,?_⟩
  rcases e7 with e7 | ⟨tb,tvs,f1,f2,f3⟩
  · exact .inl e7
  · exact .inr ⟨tb,tvs,f1,z.none f2,f3⟩
noncomputable def Ay {α β:Type} (cx:Cx) (A:Around) (r:Res β) (t:Sem α) (V:β -> α -> Amb) (ρ:Rho) (s:Shared):Prop :=
  match r with
  | .bad=>True
  | .ok b H'=>wpAny (model cx.prog cx.w) A t (fun a s'=>∃ ρ',Full ρ s.heap ρ' s'.heap /\ Rel cx H' ρ' s' /\ (V b a).P ρ' s'.heap) (fun _ _=>False) s
  | .exc c H'=>wpAny (model cx.prog cx.w) A t (fun _ _=>False) (fun e s'=>∃ ρ',Full ρ s.heap ρ' s'.heap /\ Rel cx H' ρ' s' /\ Flying cx ρ' s.heap s'.heap c e) s
noncomputable def Sim {α β:Type} (cx:Cx) (A:Around) (P:Amb) (t:Sem α) (m:M β) (V:β -> α -> Amb):Prop :=
  ∀ (H:Hp) (ρ:Rho) (s:Shared),Rel cx H ρ s -> P.P ρ s.heap -> Ay cx A (m H) t V ρ s
section
variable {α β γ δ:Type} {cx:Cx} {A:Around} {P:Amb} {t:Sem α} {m:M β} {V:β -> α -> Amb}
theorem Ay.bind {f:α -> Sem γ} {g:β -> M δ} {W:δ -> γ -> Amb} {ρ:Rho} {s:Shared} {H:Hp} (x:Ay cx A (m H) t V ρ s)
    (y:∀ b a H' ρ' s',m H=.ok b H' -> Full ρ s.heap ρ' s'.heap -> Rel cx H' ρ' s' -> (V b a).P ρ' s'.heap -> Ay cx A (g b H') (f a) W ρ' s') :
    Ay cx A (m.bnd g H) (t>>=f) W ρ s:=by
  cases e:m H with
  | bad=>rw [Cu e];trivial
  | exc c H' =>
    rw [Eb e]
    rw [e] at x
    exact wpAny_bind (wpAny_mono x (fun _ _ q=>q.elim) fun _ _ q=>q)
  | ok b H' =>
    rw [Dr e]
    rw [e] at x
    have y':=y b
    cases e2:g b H' with
    | bad=>trivial
    | exc c H'' =>
      refine wpAny_bind (wpAny_mono x (fun a s' ⟨ρ',F,R,v⟩=>?_) fun _ _ q=>q.elim)
      have z:=y b a H' ρ' s' e F R v
      rw [e2] at z
      exact wpAny_mono z (fun _ _ q=>q) fun e s'' ⟨ρ'',F',R',fl⟩=>⟨ρ'',F.trans F',R',fl.older F.live⟩
    | ok d H'' =>
      refine wpAny_bind (wpAny_mono x (fun a s' ⟨ρ',F,R,v⟩=>?_) fun _ _ q=>q.elim)
      have z:=y b a H' ρ' s' e F R v
      rw [e2] at z
      exact wpAny_mono z (fun a' s'' ⟨ρ'',F',R',w⟩=>⟨ρ'',F.trans F',R',w⟩) fun _ _ q=>q.elim
theorem Sim.bind {f:α -> Sem γ} {g:β -> M δ} {W:δ -> γ -> Amb} (x:Sim cx A P t m V) (y:∀ b a,Sim cx A (P.and (V b a)) (f a) (g b) W):Sim cx A P (t>>=f) (m.bnd g) W :=
  fun H ρ s R p=>Ay.bind (x H ρ s R p) fun b a H' ρ' s' _ F R' v=>y b a H' ρ' s' R' ⟨P.st _ _ _ _ p F,v⟩
noncomputable def E3 {α β:Type} (cx:Cx) (r:Res β) (K:(α -> Shared -> Prop) -> (Value -> Shared -> Prop) -> Shared -> Prop) (V:β -> α -> Amb) (ρ:Rho) (s:Shared):Prop :=
  match r with
  | .bad=>True
  | .ok b H'=>K (fun a s'=>∃ ρ',Full ρ s.heap ρ' s'.heap /\ Rel cx H' ρ' s' /\ (V b a).P ρ' s'.heap) (fun _ _=>False) s
  | .exc c H'=>K (fun _ _=>False) (fun e s'=>∃ ρ',Full ρ s.heap ρ' s'.heap /\ Rel cx H' ρ' s' /\ Flying cx ρ' s.heap s'.heap c e) s
theorem E3.of {r:Res β} {ρ:Rho} {s:Shared} (x:Ay cx A r t V ρ s):E3 cx r (fun Q E s=>wpAny (model cx.prog cx.w) A t Q E s) V ρ s:=x
noncomputable def Sa {α:Type} (K:(α -> Shared -> Prop) -> (Value -> Shared -> Prop) -> Shared -> Prop):Prop :=
  ∀ Q E Q' E' s,K Q E s -> (∀ a s,Q a s -> Q' a s) -> (∀ e s,E e s -> E' e s) -> K Q' E' s
theorem Ay.bindK {g:β -> M δ} {W:δ -> γ -> Amb} {ρ:Rho} {s:Shared} {H:Hp} {K:α -> (γ -> Shared -> Prop) -> (Value -> Shared -> Prop) -> Shared -> Prop} {K':(γ -> Shared -> Prop) -> (Value -> Shared -> Prop) -> Shared -> Prop} (x:Ay cx A (m H) t V ρ s)
    (y:∀ b a H' ρ' s',m H=.ok b H' -> Full ρ s.heap ρ' s'.heap -> Rel cx H' ρ' s' -> (V b a).P ρ' s'.heap -> E3 cx (g b H') (K a) W ρ' s')
    (mk:∀ a,Sa (K a))
    (k:∀ Q E,wpAny (model cx.prog cx.w) A t (fun a s'=>K a Q E s') E s -> K' Q E s) :
    E3 cx (m.bnd g H) K' W ρ s:=by
  cases e:m H with
  | bad=>rw [Cu e];trivial
  | exc c H' =>
    rw [Eb e]
    rw [e] at x
    exact k _ _ (wpAny_mono x (fun _ _ q=>q.elim) fun _ _ q=>q)
  | ok b H' =>
    rw [Dr e]
    rw [e] at x
    cases e2:g b H' with
    | bad=>trivial
    | exc c H'' =>
      refine k _ _ (wpAny_mono x (fun a s' ⟨ρ',F,R,v⟩=>?_) fun _ _ q=>q.elim)
      have z:=y b a H' ρ' s' e F R v
      rw [e2] at z
      exact mk a _ _ _ _ _ z (fun _ _ q=>q) fun e s'' ⟨ρ'',F',R',fl⟩=>⟨ρ'',F.trans F',R',fl.older F.live⟩
    | ok d H'' =>
      refine k _ _ (wpAny_mono x (fun a s' ⟨ρ',F,R,v⟩=>?_) fun _ _ q=>q.elim)
      have z:=y b a H' ρ' s' e F R v
      rw [e2] at z
      exact mk a _ _ _ _ _ z (fun a' s'' ⟨ρ'',F',R',w⟩=>⟨ρ'',F.trans F',R',w⟩) fun _ _ q=>q.elim
theorem E3.lookK {ρ:Rho} {s:Shared} {H:Hp} {f:Hp -> Option β} {g:β -> M δ} {W:δ -> γ -> Amb} {K:(γ -> Shared -> Prop) -> (Value -> Shared -> Prop) -> Shared -> Prop} (y:∀ b,f H=some b -> E3 cx (g b H) K W ρ s):E3 cx ((M.look f).bnd g H) K W ρ s:=by
  cases e:f H with
  | none=>rw [Cu (show M.look f H=.bad by unfold M.look;rw [e])];trivial
  | some b=>rw [Dr (show M.look f H=.ok b H by unfold M.look;rw [e])];exact y b e
theorem E3.mono {r:Res β} {ρ:Rho} {s:Shared} {K K':(α -> Shared -> Prop) -> (Value -> Shared -> Prop) -> Shared -> Prop} (x:E3 cx r K V ρ s) (k:∀ Q E,K Q E s -> K' Q E s):E3 cx r K' V ρ s:=by
  cases r with
  | bad=>trivial
  | exc c H'=>exact k _ _ x
  | ok b H'=>exact k _ _ x
theorem Sim.pre {t':Sem α} (x:Sim cx A P t m V) (k:∀ (Q:α -> Shared -> Prop) (E:Value -> Shared -> Prop) (s:Shared),wpAny (model cx.prog cx.w) A t Q E s -> wpAny (model cx.prog cx.w) A t' Q E s):Sim cx A P t' m V:=by
  intro H ρ s R p
  have z:=x H ρ s R p
  cases e:m H with
  | bad=>trivial
  | exc c H'=>rw [e] at z;exact k _ _ _ z
  | ok b H'=>rw [e] at z;exact k _ _ _ z
theorem Sim.holding {vs:List Value} (x:Sim cx A P t m V):Sim cx A P (holding vs t) m V:=x.pre fun _ _ _ h=>wpAny_holding h
theorem Sim.stand {pos:Pos} {k:Unit -> Sem α} (x:Sim cx A P (k ()) m V):Sim cx A P (standAt pos>>=k) m V:=x.pre fun _ _ _ h=>wpAny_bind (wpAny_standAt h)
theorem Sim.weak {P':Amb} (x:Sim cx A P t m V) (k:∀ ρ h,P'.P ρ h -> P.P ρ h):Sim cx A P' t m V:=fun H ρ s R p=>x H ρ s R (k _ _ p)
theorem Sim.ret {a:α} {b:β} (k:∀ ρ h,P.P ρ h -> (V b a).P ρ h):Sim cx A P (pure a) (M.ret b) V :=
  fun H ρ s R p=>wpAny_pure ⟨ρ,Full.refl _ _,R,k _ _ p⟩
theorem Sim.bad:Sim cx A P t (M.bad:M β) V:=fun _ _ _ _ _=>trivial
theorem Sim.look {f:Hp -> Option β} (k:∀ (H:Hp) (ρ:Rho) (s:Shared) (b:β),Rel cx H ρ s -> P.P ρ s.heap -> f H=some b ->
    ∀ (Q:α -> Shared -> Prop) (E:Value -> Shared -> Prop),(∀ a tk,(V b a).P ρ s.heap -> Q a { s with toks:=tk }) -> wpAny (model cx.prog cx.w) A t Q E s):Sim cx A P t (M.look f) V:=by
  intro H ρ s R p
  show Ay cx A (match f H with | some a=>Res.ok a H | none=>Res.bad) t V ρ s
  cases e:f H with
  | none=>trivial
  | some b=>exact k H ρ s b R p e _ _ fun a tk v=>⟨ρ,Full.refl _ _,R.toks tk,v⟩
end
noncomputable def Xz (env:Env) (h:Heap) (y:Str) (v:Value):Prop :=
  (env.kindOf y=some .local /\ ∃ m,h.Ns env.locals m /\ m y=some v) \/
  ((env.kindOf y=some .cell \/ env.kindOf y=some .free) /\ ∃ c,env.cells.lookup y=some c /\ h.IsCell c (some v))
noncomputable def Afy:NameKind -> Option NameKind -> Prop
  | .local,k=>k=some .local
  | .cell,k=>k=some .cell
  | .free,k=>k=some .free \/ k=some .cell
  | .globalImplicit,k=>k=some .globalImplicit
  | _,_=>True
structure EnvSt (cx:Cx) (env:Env) (sc:Scope) (ρ:Rho) (h:Heap):Prop where
  fn:env.scope.kind=.function
  glob:env.globals=mainGlobals
  blt:env.builtins=builtinsNs
  kinds:∀ y k,sc.names.lookup y=some k -> Afy k (env.kindOf y)
  loc:∃ m,h.Ns env.locals m
  locN:¬ Aw ρ env.locals
  locB:cx.h₀.get? env.locals=none
  cells:∀ y c,env.cells.lookup y=some c -> (∃ v,h.IsCell c v) /\ ¬ Aw ρ c /\ cx.h₀.get? c=none
  hasCell:∀ y,sc.names.lookup y=some .cell \/ sc.names.lookup y=some .free -> ∃ c,env.cells.lookup y=some c
  apart:∀ y z c,env.cells.lookup y=some c -> env.cells.lookup z=some c -> y=z
structure EnvOk (cx:Cx) (env:Env) (sc:Scope) (ns:List (Option Str)) (Γ:Env') (ρ:Rho) (h:Heap):Prop where
  st:EnvSt cx env sc ρ h
  len:Γ.length=ns.length
  vals:∀ (i:Nat) (y:Str) (mv:Val),ns[i]?=some (some y) -> Γ[i]?=some (some mv) -> ∃ v,Xz env h y v /\ VR cx ρ h mv v
theorem Ba {h h':Heap} {a:Addr} {m:Str -> Option Value} (n:h.Ns a m) (k:∀ o,h.get? a=some o -> ∃ o',h'.get? a=some o' /\ o'.data=o.data):h'.Ns a m:=by
  refine ex3 n fun o es ep zz=>As zz fun e d r=>?_
  refine ex1 (k o e) fun o' zz=>Ac zz fun e' d'=>?_
  exact ⟨o',es,ep,e',d'.trans d,r⟩
theorem Full.data {ρ ρ':Rho} {h h':Heap} (F:Full ρ h ρ' h') {a:Addr} (n:¬ Aw ρ a):∀ o,h.get? a=some o -> ∃ o',h'.get? a=some o' /\ o'.data=o.data:=fun o e=>by
  refine ex1 (F.keep a o e n) fun o' zz=>Ac zz fun e' u=>?_
  exact ⟨o',e',u.data⟩
theorem Bc {h h':Heap} {c:Addr} {v:Option Value} (x:h.IsCell c v) (k:∀ o,h.get? c=some o -> ∃ o',h'.get? c=some o' /\ o'.data=o.data):h'.IsCell c v:=by
  refine ex1 x fun o zz=>Ac zz fun e d=>?_
  refine ex1 (k o e) fun o' zz=>Ac zz fun e' d'=>?_
  exact ⟨o',e',d'.trans d⟩
theorem EnvSt.full {cx:Cx} {env:Env} {sc:Scope} {ρ ρ':Rho} {h h':Heap} (x:EnvSt cx env sc ρ h) (F:Full ρ h ρ' h'):EnvSt cx env sc ρ' h':=by
  refine Ah fun G kG=>?_
  obtain ⟨m,hm⟩:=x.loc
  refine ex3 (id hm) fun o es ep zz=>As zz fun e d r=>?_
  refine kG ?_
  refine ⟨x.fn,x.glob,x.blt,x.kinds,⟨m,Ba hm (F.data x.locN)⟩,F.grow.not x.locN e,x.locB,fun y c hc=>?_,x.hasCell,x.apart⟩
  refine Ah fun G kG=>?_
  refine As (x.cells y c hc) fun zn0 n b=>?_;obtain ⟨v,hv⟩:=zn0
  refine ex1 (id hv) fun o zz=>Ac zz fun e _=>?_
  refine kG ?_
  exact ⟨⟨v,Bc hv (F.data n)⟩,F.grow.not n e,b⟩
theorem Xz.full {cx:Cx} {env:Env} {sc:Scope} {ρ ρ':Rho} {h h':Heap} {y:Str} {v:Value} (x:EnvSt cx env sc ρ h) (F:Full ρ h ρ' h') (q:Xz env h y v):Xz env h' y v:=by
  rcases q with ⟨k,m,hm,e⟩ | ⟨k,c,hc,e⟩
  · exact .inl ⟨k,m,Ba hm (F.data x.locN),e⟩
  · exact .inr ⟨k,c,hc,Bc e (F.data (x.cells y c hc).2.1)⟩
theorem EnvOk.full {cx:Cx} {env:Env} {sc:Scope} {ns:List (Option Str)} {Γ:Env'} {ρ ρ':Rho} {h h':Heap} (x:EnvOk cx env sc ns Γ ρ h) (F:Full ρ h ρ' h'):EnvOk cx env sc ns Γ ρ' h' :=
  ⟨x.st.full F,x.len,fun i y mv hi hm=>by
    refine ex1 (x.vals i y mv hi hm) fun v zz=>Ac zz fun hv r=>?_
    exact ⟨v,hv.full x.st F,r.step F.step⟩⟩
noncomputable def Amb.env (cx:Cx) (env:Env) (sc:Scope) (ns:List (Option Str)) (Γ:Env'):Amb:=⟨fun ρ h=>EnvOk cx env sc ns Γ ρ h,fun _ _ _ _ x F=>x.full F⟩
noncomputable def Bo (cx:Cx) (l:List Env) (ρ:Rho) (h:Heap):Prop :=
  ∀ env∈l,env.scope.kind≠.module /\ ∃ L o,env.frame=some L /\ cx.h₀.get? L=none /\ h.get? L=some o /\ (∃ es n,o.data=.dict es n) /\ ¬ Aw ρ L
theorem Bo.full {cx:Cx} {l:List Env} {ρ ρ':Rho} {h h':Heap} (x:Bo cx l ρ h) (F:Full ρ h ρ' h'):Bo cx l ρ' h':=fun env he=>by
  refine Ah fun G kG=>?_
  refine Ac (x env he) fun k zz=>ex2 zz fun L o zz=>Fe zz fun h1 h2 h3 h5 h6=>?_
  refine ex1 (F.keep L o h3 h6) fun o' zz=>Ac zz fun e' u=>?_
  refine kG ?_
  exact ⟨k,L,o',h1,h2,e',by rw [u.data];exact h5,F.grow.not h6 h3⟩
noncomputable def Amb.frames (cx:Cx) (l:List Env):Amb:=⟨fun ρ h=>Bo cx l ρ h,fun _ _ _ _ x F=>x.full F⟩
structure Room (A:Around) (d:Nat):Prop where
  hh:A.handled=none
  depth:A.depth+5 * d+150 < recursionLimit
  units:A.units+20 * d+100 < cLine
structure RoomF (A:Around) (d:Nat):Prop where
  hh:A.handled=none
  depth:A.depth+5 * d+147 < recursionLimit
  units:A.units+20 * d+90 < cLine
structure RoomQ (A:Around) (d:Nat):Prop where
  depth:A.depth+5 * d+147 < recursionLimit
  units:A.units+20 * d+90 < cLine
theorem RoomF.q {A:Around} {d:Nat} (r:RoomF A d):RoomQ A d:=⟨r.depth,r.units⟩
theorem Room.toF {A:Around} {d:Nat} (r:Room A d):RoomF A d:=⟨r.hh,by have:=r.depth;exact o2 this,by have:=r.units;exact o3 this⟩
theorem Room.in1 {A:Around} {d:Nat} (r:Room A (d+1)):Room A.in1 d:=⟨r.hh,by have:=r.depth;simp only [Around.in1_depth];exact o4 this,by have:=r.units;simp only [Around.in1_units];exact o5 this⟩
noncomputable def Ep:List (Str × Value):=[("len",.builtin "len"),("range",.type "range"),("isinstance",.builtin "isinstance"),("list",.type "list"),("tuple",.type "tuple"),("int",.type "int"),("bool",.type "bool"),("str",.type "str"),
  ("zip",.type "zip"),("enumerate",.type "enumerate"),("sorted",.builtin "sorted"),("min",.builtin "min"),("max",.builtin "max"),("abs",.builtin "abs"),("set",.type "set")]
structure Names where
  funs:List (Str × Nat)
  clss:List (Str × Nat)
  globs:List (Str × Nat)
  attrs:List (Str × Nat)
  meths:List (Str × Nat)
noncomputable def Bd (sc:Scope) (x:Str):Bool:=decide (sc.names.lookup x=some .globalImplicit) && !(x == ("__debug__":Str))
noncomputable def X0 (sc:Scope) (ns:List (Option Str)) (i:Nat) (x:Str):Bool :=
  (decide (sc.names.lookup x=some .local) || (decide (sc.names.lookup x=some .cell) || decide (sc.names.lookup x=some .free))) && (decide (ns[i]?=some (some x)) && (!(x == ("__debug__":Str)) && !(x == ("__classdict__":Str))))
noncomputable def Fq (sc:Scope) (ns:List (Option Str)) (i:Nat) (x:Str):Bool :=
  (decide (sc.names.lookup x=some .local) || decide (sc.names.lookup x=some .cell)) && decide (ns[i]?=some (some x))
noncomputable def Do (l:List (Str × Nat)) (x:Str) (k:Nat):Bool:=decide (l.lookup x=some k)
noncomputable def bOp:BOp -> Operator
  | .add=>.Add
  | .sub=>.Sub
  | .mul=>.Mult
  | .fdiv=>.FloorDiv
  | .mod=>.Mod
noncomputable def Ah0 (b:BOp) (o:Operator):Bool:=decide (bOp b=o)
noncomputable def Ib:COp -> CmpOp
  | .eq=>.Eq
  | .ne=>.NotEq
  | .lt=>.Lt
  | .le=>.LtE
  | .gt=>.Gt
  | .is=>.Is
  | .isNot=>.IsNot
  | .isin=>.In
  | .notin=>.NotIn
noncomputable def B7:Expr -> Bool
  | .Call (.Name x _) _ _ _=>!(x == ("super":Str))
  | _=>true
noncomputable def Ds:Expr -> Bool
  | .Set ..=>false
  | _=>true
noncomputable def Fs:BF -> Str × Nat
  | .len=>("len",1)
  | .range=>("range",1)
  | .list=>("list",1)
  | .max2=>("max",2)
  | .str=>("str",1)
  | .int=>("int",1)
  | .sortedSet=>("",0)
noncomputable def Gh:BM -> Str × Nat
  | .append=>("append",1)
  | .dpop=>("pop",1)
  | .clear=>("clear",0)
  | .join=>("join",1)
  | .split=>("split",1)
noncomputable def Nd:Ty -> Str
  | .int=>"int"
  | .bool=>"bool"
  | .str=>"str"
  | .tuple=>"tuple"
  | .list=>"list"
  | .cls _=>""
noncomputable def Dp (csc:Scope) (ns:List (Option Str)):List (Option Str):=ns.map fun o=>o.bind fun y=>if csc.names.lookup y=some .free then some y else none
noncomputable def Jd (sc csc:Scope) (x:Str):Bool :=
  decide (csc.kind=.function) && ((decide (csc.names.lookup x=some .local) || decide (csc.names.lookup x=some .cell)) &&
  csc.names.all fun p=>decide (csc.names.lookup p.1=some p.2) && (!decide (p.2=.free) || (decide (sc.names.lookup p.1=some .cell) || decide (sc.names.lookup p.1=some .free))))
noncomputable def Nf (e:Expr):Option { p:Const × Nat × Pos // e=.Constant p.1 p.2.1 p.2.2 }:=match e with
  | .Constant c k pos=>some ⟨(c,k,pos),rfl⟩
  | _=>none
noncomputable def Lw (e:Expr):Option { p:Str × Pos // e=.Name p.1 p.2 }:=match e with
  | .Name x pos=>some ⟨(x,pos),rfl⟩
  | _=>none
noncomputable def Atb (e:Expr):Option { p:Expr × Operator × Expr × Pos // e=.BinOp p.1 p.2.1 p.2.2.1 p.2.2.2 }:=match e with
  | .BinOp l o r pos=>some ⟨(l,o,r,pos),rfl⟩
  | _=>none
noncomputable def dUn (e:Expr):Option { p:UnaryOp × Expr × Pos // e=.UnaryOp p.1 p.2.1 p.2.2 }:=match e with
  | .UnaryOp o x pos=>some ⟨(o,x,pos),rfl⟩
  | _=>none
noncomputable def Afz (e:Expr):Option { p:BoolOp × List Expr × Pos // e=.BoolOp p.1 p.2.1 p.2.2 }:=match e with
  | .BoolOp o xs pos=>some ⟨(o,xs,pos),rfl⟩
  | _=>none
noncomputable def Ak0 (e:Expr):Option { p:Expr × List CmpOp × List Expr × Pos // e=.Compare p.1 p.2.1 p.2.2.1 p.2.2.2 }:=match e with
  | .Compare l os rs pos=>some ⟨(l,os,rs,pos),rfl⟩
  | _=>none
noncomputable def Aip (e:Expr):Option { p:Expr × Expr × Pos // e=.Subscript p.1 p.2.1 p.2.2 }:=match e with
  | .Subscript v s pos=>some ⟨(v,s,pos),rfl⟩
  | _=>none
noncomputable def Af0 (e:Expr):Option { p:Option Expr × Option Expr × Option Expr × Pos // e=.Slice p.1 p.2.1 p.2.2.1 p.2.2.2 }:=match e with
  | .Slice l u t pos=>some ⟨(l,u,t,pos),rfl⟩
  | _=>none
noncomputable def Ak1 (e:Expr):Option { p:List Expr × Nat × Pos // e=.Tuple p.1 p.2.1 p.2.2 }:=match e with
  | .Tuple xs k pos=>some ⟨(xs,k,pos),rfl⟩
  | _=>none
noncomputable def Aiq (e:Expr):Option { p:List Expr × Pos // e=.List p.1 p.2 }:=match e with
  | .List xs pos=>some ⟨(xs,pos),rfl⟩
  | _=>none
noncomputable def Air (e:Expr):Option { p:List (Option Expr) × List Expr × Pos // e=.Dict p.1 p.2.1 p.2.2 }:=match e with
  | .Dict ks vs pos=>some ⟨(ks,vs,pos),rfl⟩
  | _=>none
noncomputable def Ab8 (e:Expr):Option { p:Expr × Str × Pos // e=.Attribute p.1 p.2.1 p.2.2 }:=match e with
  | .Attribute v y pos=>some ⟨(v,y,pos),rfl⟩
  | _=>none
noncomputable def Af1 (e:Expr):Option { p:Expr × List Expr × List Keyword × Pos // e=.Call p.1 p.2.1 p.2.2.1 p.2.2.2 }:=match e with
  | .Call f xs ks pos=>some ⟨(f,xs,ks,pos),rfl⟩
  | _=>none
noncomputable def Ais (e:Expr):Option { p:Expr × List Comprehension × Scope × Pos // e=.ListComp p.1 p.2.1 p.2.2.1 p.2.2.2 }:=match e with
  | .ListComp el gs csc pos=>some ⟨(el,gs,csc,pos),rfl⟩
  | _=>none
noncomputable def Ait (c:Const):Option { _p:Unit // c=.none }:=match c with
  | .none=>some ⟨(),rfl⟩
  | _=>none
noncomputable def Aiu (c:Const):Option { b:Bool // c=.bool b }:=match c with
  | .bool b=>some ⟨b,rfl⟩
  | _=>none
noncomputable def Atc (c:Const):Option { b:Int // c=.int b }:=match c with
  | .int b=>some ⟨b,rfl⟩
  | _=>none
noncomputable def Ak2 (c:Const):Option { b:Str // c=.str b }:=match c with
  | .str b=>some ⟨b,rfl⟩
  | _=>none
noncomputable def Af2 (o:UnaryOp):Option { _p:Unit // o=.USub }:=match o with
  | .USub=>some ⟨(),rfl⟩
  | _=>none
noncomputable def Ab9 (o:UnaryOp):Option { _p:Unit // o=.Not }:=match o with
  | .Not=>some ⟨(),rfl⟩
  | _=>none
noncomputable def Aiv (o:BoolOp):Option { _p:Unit // o=.And }:=match o with
  | .And=>some ⟨(),rfl⟩
  | _=>none
noncomputable def Atd (o:BoolOp):Option { _p:Unit // o=.Or }:=match o with
  | .Or=>some ⟨(),rfl⟩
  | _=>none
noncomputable def one {α:Type} (xs:List α):Option { x:α // xs=[x] }:=match xs with
  | [x]=>some ⟨x,rfl⟩
  | _=>none
noncomputable def two {α:Type} (xs:List α):Option { p:α × α // xs=[p.1,p.2] }:=match xs with
  | [x,y]=>some ⟨(x,y),rfl⟩
  | _=>none
noncomputable def more (xs:List Expr):Option { p:Expr × Expr × List Expr // xs=p.1 :: p.2.1 :: p.2.2 }:=match xs with
  | x :: y :: r=>some ⟨(x,y,r),rfl⟩
  | _=>none
noncomputable def Aiw {α:Type} (xs:List α):Option { _p:Unit // xs=[] }:=match xs with
  | []=>some ⟨(),rfl⟩
  | _ :: _=>none
noncomputable def Af3 {α:Type} (o:Option α):Option { _p:Unit // o=none }:=match o with
  | none=>some ⟨(),rfl⟩
  | some _=>none
noncomputable def Je (e:Expr):Option { p:Str × Pos × List Expr × Pos // e=.Call (.Name p.1 p.2.1) p.2.2.1 [] p.2.2.2 }:=match Af1 e with
  | some ⟨(f,xs,ks,pos),h⟩=>(match Aiw ks,Lw f with
    | some ⟨_,hk⟩,some ⟨(x,np),hn⟩=>some ⟨(x,np,xs,pos),h.trans (by dsimp only at hk hn ⊢;rw [hk,hn])⟩
    | _,_=>none)
  | none=>none
noncomputable def Aav (e:Expr):Option { p:Expr × Str × Pos × List Expr × Pos // e=.Call (.Attribute p.1 p.2.1 p.2.2.1) p.2.2.2.1 [] p.2.2.2.2 /\ (p.2.2.1.endLine == p.2.2.2.2.line)=true }:=match Af1 e with
  | some ⟨(f,xs,ks,pos),h⟩=>(match Aiw ks,Ab8 f with
    | some ⟨_,hk⟩,some ⟨(o,y,apos),hn⟩=>if hl:(apos.endLine == pos.line)=true then some ⟨(o,y,apos,xs,pos),h.trans (by dsimp only at hk hn ⊢;rw [hk,hn]),hl⟩ else none
    | _,_=>none)
  | none=>none
noncomputable def Ate (gs:List Comprehension):Option { p:Str × Pos × Expr × List Expr // gs=[⟨.Name p.1 p.2.1,p.2.2.1,p.2.2.2,0⟩] }:=match one gs with
  | some ⟨⟨t,i,ifs,as⟩,h⟩=>(match Lw t with
    | some ⟨(x,px),hn⟩=>if ha:as=0 then some ⟨(x,px,i,ifs),h.trans (by dsimp only at hn ⊢;rw [hn,ha])⟩ else none
    | none=>none)
  | none=>none
noncomputable def Ak3 (N:Names) (y:Str):Ty -> Bool
  | .cls c=>Do N.clss y c
  | t=>decide (Nd t=y)
noncomputable def Be {α:Type} (o:Option α) (f:α -> Bool):Bool:=match o with
  | some a=>f a
  | none=>false
theorem Ab {α:Type} {o:Option α} {f:α -> Bool} (h:Be o f=true):∃ a,f a=true:=by
  cases o with
  | none=>exact Cd h
  | some a=>exact ⟨a,h⟩
theorem Aaw {P:Prop} {o:Option { _p:Unit // P }} (h:o.isSome=true):P:=by
  cases o with
  | none=>exact Cd h
  | some a=>exact a.2
theorem an1 {a b:Bool} (h:(a && b)=true):a=true:=by
  cases a with
  | true=>rfl
  | false=>exact Cd h
theorem an2 {a b:Bool} (h:(a && b)=true):b=true:=by
  cases a with
  | true=>exact h
  | false=>exact Cd h
theorem T3 {p q:Prop} [Decidable p] [Decidable q] (h:(decide p || decide q)=true):p \/ q:=((Bool.or_eq_true _ _).mp h).imp of_decide_eq_true of_decide_eq_true
theorem not_not {b:Bool} (h:(!b)=true):b=false:=(Bool.not_eq_true' b).mp h
mutual
noncomputable def ck (N:Names) (sc:Scope) (ns:List (Option Str)) (m:ME) (e:Expr):Bool :=
  match m with
  | .none=>(Be (Nf e) fun p1=>(Ait p1.1.1).isSome)
  | .bool b=>(Be (Nf e) fun p1=>(Be (Aiu p1.1.1) fun p2=>b == p2.1))
  | .int i=>(Be (Nf e) fun p1=>(Be (Atc p1.1.1) fun p2=>decide (i=p2.1)))
  | .str s=>(Be (Nf e) fun p1=>(Be (Ak2 p1.1.1) fun p2=>decide (s=p2.1) && decide (s.length <= 1000)))
  | .glob k=>(Be (Lw e) fun p1=>Bd sc p1.1.1 && Do N.globs p1.1.1 k)
  | .var i=>(Be (Lw e) fun p1=>X0 sc ns i p1.1.1)
  | .bin op a b=>(Be (Atb e) fun p1=>Ah0 op p1.1.2.1 && ck N sc ns a p1.1.1 && ck N sc ns b p1.1.2.2.1)
  | .neg a=>(Be (dUn e) fun p1=>(Af2 p1.1.1).isSome && ck N sc ns a p1.1.2.1)
  | .not a=>(Be (dUn e) fun p1=>(Ab9 p1.1.1).isSome && ck N sc ns a p1.1.2.1)
  | .and a b=>(Be (Afz e) fun p1=>(Aiv p1.1.1).isSome && (Be (more p1.1.2.1) fun p2=>ck N sc ns a p2.1.1 && (match p2.1.2.2 with
        | []=>ck N sc ns b p2.1.2.1
        | _ :: _=>ck N sc ns b (.BoolOp .And (p2.1.2.1 :: p2.1.2.2) p1.1.2.2))))
  | .or a b=>(Be (Afz e) fun p1=>(Atd p1.1.1).isSome && (Be (more p1.1.2.1) fun p2=>ck N sc ns a p2.1.1 && (match p2.1.2.2 with
        | []=>ck N sc ns b p2.1.2.1
        | _ :: _=>ck N sc ns b (.BoolOp .Or (p2.1.2.1 :: p2.1.2.2) p1.1.2.2))))
  | .cmp op a b=>(Be (Ak0 e) fun p1=>decide (p1.1.2.1=[Ib op]) && (Be (one p1.1.2.2.1) fun p2=>ck N sc ns a p1.1.1 && ck N sc ns b p2.1 && Ds p2.1))
  | .cmp2 op1 op2 a b c=>(Be (Ak0 e) fun p1=>decide (p1.1.2.1=[Ib op1,Ib op2]) && (Be (two p1.1.2.2.1) fun p2=>ck N sc ns a p1.1.1 && ck N sc ns b p2.1.1 && ck N sc ns c p2.1.2 && Ds p2.1.2))
  | .sub a i=>(Be (Aip e) fun p1=>ck N sc ns a p1.1.1 && ck N sc ns i p1.1.2.1)
  | .slice a lo hi=>(Be (Aip e) fun p1=>(Be (Af0 p1.1.2.1) fun p2=>ck N sc ns a p1.1.1 && ckO N sc ns lo p2.1.1 && ckO N sc ns hi p2.1.2.1 && (Af3 p2.1.2.2.1).isSome))
  | .tup es=>(Be (Ak1 e) fun p1=>ckEs N sc ns es p1.1.1 && decide (p1.1.1.length <= 1000))
  | .list es=>(Be (Aiq e) fun p1=>ckEs N sc ns es p1.1.1 && decide (p1.1.1.length <= 1000))
  | .dict=>(Be (Air e) fun p1=>p1.1.1.isEmpty && p1.1.2.1.isEmpty)
  | .attr a n=>(Be (Ab8 e) fun p1=>ck N sc ns a p1.1.1 && Do N.attrs p1.1.2.1 n && B7 p1.1.1)
  | .call f es=>(Be (Je e) fun p1=>Bd sc p1.1.1 && Do N.funs p1.1.1 f && ckEs N sc ns es p1.1.2.2.1 && decide (p1.1.2.2.1.length <= 20))
  | .new c es=>(Be (Je e) fun p1=>Bd sc p1.1.1 && Do N.clss p1.1.1 c && ckEs N sc ns es p1.1.2.2.1 && decide (p1.1.2.2.1.length <= 20))
  | .umeth a m es=>(Be (Aav e) fun p1=>ck N sc ns a p1.1.1 && Do N.meths p1.1.2.1 m && ckEs N sc ns es p1.1.2.2.2.1 && decide (p1.1.2.2.2.1.length <= 20) && B7 p1.1.1)
  | .bf f es=>(Be (Je e) fun p1=>Bd sc p1.1.1 && decide ((Fs f).1=p1.1.1) && decide ((Fs f).2=p1.1.2.2.1.length) && ckEs N sc ns es p1.1.2.2.1)
  | .bm a m es=>(Be (Aav e) fun p1=>ck N sc ns a p1.1.1 && decide ((Gh m).1=p1.1.2.1) && decide ((Gh m).2=p1.1.2.2.2.1.length) && ckEs N sc ns es p1.1.2.2.2.1 && B7 p1.1.1)
  | .isinst a t=>(Be (Je e) fun p1=>(Be (two p1.1.2.2.1) fun p2=>(Be (Lw p2.1.2) fun p3=>Bd sc p1.1.1 && decide (p1.1.1=("isinstance":Str)) && Bd sc p3.1.1 && ck N sc ns a p2.1.1 && Ak3 N p3.1.1 t)))
  | .sset a=>(Be (Je e) fun p1=>(Be (one p1.1.2.2.1) fun p2=>(Be (Je p2.1) fun p3=>(Be (one p3.1.2.2.1) fun p4=>Bd sc p1.1.1 && decide (p1.1.1=("sorted":Str)) && Bd sc p3.1.1 && decide (p3.1.1=("set":Str)) && ck N sc ns a p4.1))))
  | .comp elt it cond=>(Be (Ais e) fun p1=>(Be (Ate p1.1.2.1) fun p2=>ck N sc ns it p2.1.2.2.1 && Ds p2.1.2.2.1 && Jd sc p1.1.2.2.1 p2.1.1 && ck N p1.1.2.2.1 (Dp p1.1.2.2.1 ns++[some p2.1.1]) elt p1.1.1 && ckC N p1.1.2.2.1 (Dp p1.1.2.2.1 ns++[some p2.1.1]) cond p2.1.2.2.2))
noncomputable def ckO (N:Names) (sc:Scope) (ns:List (Option Str)):MEo -> Option Expr -> Bool
  | .none,none=>true
  | .some e,some x=>ck N sc ns e x
  | _,_=>false
noncomputable def ckC (N:Names) (sc:Scope) (ns:List (Option Str)):MEo -> List Expr -> Bool
  | .none,[]=>true
  | .some e,[x]=>ck N sc ns e x
  | _,_=>false
noncomputable def ckEs (N:Names) (sc:Scope) (ns:List (Option Str)):MEs -> List Expr -> Bool
  | .nil,[]=>true
  | .cons e es,x :: xs=>ck N sc ns e x && ckEs N sc ns es xs
  | _,_=>false
end
noncomputable def Af4 (st:Stmt):Option { p:Expr × Pos // st=.Expr p.1 p.2 }:=match st with
  | .Expr x pos=>some ⟨(x,pos),rfl⟩
  | _=>none
noncomputable def Aix (st:Stmt):Option { p:Expr × Expr × Pos // st=.Assign [p.1] p.2.1 p.2.2 }:=match st with
  | .Assign ts x pos=>(match one ts with
    | some ⟨t,h⟩=>some ⟨(t,x,pos),by dsimp only;rw [h]⟩
    | none=>none)
  | _=>none
noncomputable def Af5 (st:Stmt):Option { p:Str × Pos × Expr × Pos // st=.Assign [.Name p.1 p.2.1] p.2.2.1 p.2.2.2 }:=match Aix st with
  | some ⟨(t,x,pos),h⟩=>(match Lw t with
    | some ⟨(y,py),hn⟩=>some ⟨(y,py,x,pos),h.trans (by dsimp only at hn ⊢;rw [hn])⟩
    | none=>none)
  | none=>none
noncomputable def Af6 (st:Stmt):Option { p:Expr × Str × Pos × Expr × Pos // st=.Assign [.Attribute p.1 p.2.1 p.2.2.1] p.2.2.2.1 p.2.2.2.2 }:=match Aix st with
  | some ⟨(t,x,pos),h⟩=>(match Ab8 t with
    | some ⟨(o,y,py),hn⟩=>some ⟨(o,y,py,x,pos),h.trans (by dsimp only at hn ⊢;rw [hn])⟩
    | none=>none)
  | none=>none
noncomputable def Af7 (st:Stmt):Option { p:Expr × Expr × Pos × Expr × Pos // st=.Assign [.Subscript p.1 p.2.1 p.2.2.1] p.2.2.2.1 p.2.2.2.2 }:=match Aix st with
  | some ⟨(t,x,pos),h⟩=>(match Aip t with
    | some ⟨(o,y,py),hn⟩=>some ⟨(o,y,py,x,pos),h.trans (by dsimp only at hn ⊢;rw [hn])⟩
    | none=>none)
  | none=>none
noncomputable def Aiy (st:Stmt):Option { p:Option Expr × Pos // st=.Return p.1 p.2 }:=match st with
  | .Return x pos=>some ⟨(x,pos),rfl⟩
  | _=>none
noncomputable def Atf (st:Stmt):Option { p:Expr × List Stmt × List Stmt × Pos // st=.If p.1 p.2.1 p.2.2.1 p.2.2.2 }:=match st with
  | .If x ts fs pos=>some ⟨(x,ts,fs,pos),rfl⟩
  | _=>none
noncomputable def Ak4 (st:Stmt):Option { p:Expr × Expr × List Stmt × Pos // st=.For p.1 p.2.1 p.2.2.1 [] p.2.2.2 }:=match st with
  | .For t x ts fs pos=>(match Aiw fs with
    | some ⟨_,h⟩=>some ⟨(t,x,ts,pos),by dsimp only;rw [h]⟩
    | none=>none)
  | _=>none
noncomputable def Af8 (st:Stmt):Option { p:Str × Pos × Expr × List Stmt × Pos // st=.For (.Name p.1 p.2.1) p.2.2.1 p.2.2.2.1 [] p.2.2.2.2 }:=match Ak4 st with
  | some ⟨(t,x,ts,pos),h⟩=>(match Lw t with
    | some ⟨(y,py),hn⟩=>some ⟨(y,py,x,ts,pos),h.trans (by dsimp only at hn ⊢;rw [hn])⟩
    | none=>none)
  | none=>none
noncomputable def Aiz (t:Expr):Option { p:Str × Pos × Str × Pos × Nat × Pos // t=.Tuple [.Name p.1 p.2.1,.Name p.2.2.1 p.2.2.2.1] p.2.2.2.2.1 p.2.2.2.2.2 }:=match Ak1 t with
  | some ⟨(xs,k,pt),h⟩=>(match two xs with
    | some ⟨(a,b),h2⟩=>(match Lw a,Lw b with
      | some ⟨(y,py),h3⟩,some ⟨(z,pz),h4⟩=>some ⟨(y,py,z,pz,k,pt),h.trans (by dsimp only at h2 h3 h4 ⊢;rw [h2,h3,h4])⟩
      | _,_=>none)
    | none=>none)
  | none=>none
noncomputable def Af9 (st:Stmt):Option { p:(Str × Pos × Str × Pos × Nat × Pos) × Expr × List Stmt × Pos // st=.For (.Tuple [.Name p.1.1 p.1.2.1,.Name p.1.2.2.1 p.1.2.2.2.1] p.1.2.2.2.2.1 p.1.2.2.2.2.2) p.2.1 p.2.2.1 [] p.2.2.2 }:=match Ak4 st with
  | some ⟨(t,x,ts,pos),h⟩=>(match Aiz t with
    | some ⟨q,hn⟩=>some ⟨(q,x,ts,pos),h.trans (by dsimp only;rw [hn])⟩
    | none=>none)
  | none=>none
noncomputable def T4 (e:Expr):Option { p:Str × Pos × Expr × Pos // e=.Call (.Name p.1 p.2.1) [p.2.2.1] [] p.2.2.2 }:=match Je e with
  | some ⟨(f,fp,xs,cp),h⟩=>(match one xs with
    | some ⟨x,h2⟩=>some ⟨(f,fp,x,cp),h.trans (by dsimp only;rw [h2])⟩
    | none=>none)
  | none=>none
noncomputable def Aca (st:Stmt):Option { p:Str × Pos × Str × Nat × Pos × Pos × Pos // st=.Raise (some (.Call (.Name p.1 p.2.1) [.Constant (.str p.2.2.1) p.2.2.2.1 p.2.2.2.2.1] [] p.2.2.2.2.2.1)) none p.2.2.2.2.2.2 }:=match st with
  | .Raise (some e) o pos=>(match Af3 o,T4 e with
    | some ⟨_,h1⟩,some ⟨(f,fp,x,cp),h2⟩=>(match Nf x with
      | some ⟨(c,k,mp),h3⟩=>(match Ak2 c with
        | some ⟨m,h4⟩=>some ⟨(f,fp,m,k,mp,cp,pos),by dsimp only at h2 h3 ⊢;rw [h1,h2,h3,h4]⟩
        | none=>none)
      | none=>none)
    | _,_=>none)
  | _=>none
noncomputable def T5:ME -> Bool
  | .comp ..=>false
  | _=>true
mutual
noncomputable def ckS (N:Names) (sc:Scope) (ns:List (Option Str)) (m:MS) (st:Stmt):Bool :=
  match m with
  | .expr e=>(Be (Af4 st) fun p1=>ck N sc ns e p1.1.1 && T5 e)
  | .assign i e=>(Be (Af5 st) fun p1=>Fq sc ns i p1.1.1 && ck N sc ns e p1.1.2.2.1)
  | .setattr o n e=>(Be (Af6 st) fun p1=>ck N sc ns e p1.1.2.2.2.1 && ck N sc ns o p1.1.1 && Do N.attrs p1.1.2.1 n)
  | .setitem o i e=>(Be (Af7 st) fun p1=>ck N sc ns e p1.1.2.2.2.1 && ck N sc ns o p1.1.1 && ck N sc ns i p1.1.2.1)
  | .ret e=>(Be (Aiy st) fun p1=>ckO N sc ns e p1.1.1)
  | .ite c t f=>(Be (Atf st) fun p1=>ck N sc ns c p1.1.1 && ckSs N sc ns t p1.1.2.1 && ckSs N sc ns f p1.1.2.2.1)
  | .each i it b=>(Be (Af8 st) fun p1=>Fq sc ns i p1.1.1 && ck N sc ns it p1.1.2.2.1 && Ds p1.1.2.2.1 && ckSs N sc ns b p1.1.2.2.2.1)
  | .eachEnum i j a body=>(Be (Af9 st) fun p1=>Fq sc ns i p1.1.1.1 && Fq sc ns j p1.1.1.2.2.1 && ckSs N sc ns body p1.1.2.2.1 && (Be (T4 p1.1.2.1) fun p2=>Bd sc p2.1.1 && decide (p2.1.1=("enumerate":Str)) && ck N sc ns a p2.1.2.2.1))
  | .raise c msg=>(Be (Aca st) fun p1=>Bd sc p1.1.1 && Do N.clss p1.1.1 c && decide (p1.1.2.2.1=msg) && ckEs N sc ns (.cons (.str msg) .nil) [.Constant (.str p1.1.2.2.1) p1.1.2.2.2.1 p1.1.2.2.2.2.1])
noncomputable def ckSs (N:Names) (sc:Scope) (ns:List (Option Str)):MSs -> List Stmt -> Bool
  | .nil,[]=>true
  | .cons s ss,x :: xs=>ckS N sc ns s x && ckSs N sc ns ss xs
  | _,_=>false
end
noncomputable def Hs:List (Option Str) -> Bool
  | []=>true
  | none :: r=>Hs r
  | some x :: r=>!(r.contains (some x)) && Hs r
noncomputable def ckF (N:Names) (f:MFun) (ns:List Str) (params:Arguments) (body:List Stmt) (sc:Scope):Bool :=
  decide (f.arity+f.nvars=ns.length) && (decide (ns.take f.arity=params.args.map (·.arg)) && (params.posonlyargs.isEmpty && (params.vararg.isNone && (params.kwonlyargs.isEmpty && (params.kwarg.isNone &&
  (Hs (ns.map some) && (!sc.isCoroutine && (!sc.isGenerator && (decide (sc.kind=.function) && (ckSs N sc (ns.map some) f.body body &&
  ((sc.names.all fun p=>decide (sc.names.lookup p.1=some p.2) && !decide (p.2=.free)) &&
  (ns.take f.arity).all fun y=>decide (sc.names.lookup y=some .local) || decide (sc.names.lookup y=some .cell))))))))))))
section
variable {α β:Type} {cx:Cx} {A:Around} {P:Amb} {H:Hp} {ρ:Rho} {s:Shared} {t:Sem α} {V:β -> α -> Amb}
theorem Aq {b:β} (R:Rel cx H ρ s) (k:∀ (Q:α -> Shared -> Prop) (E:Value -> Shared -> Prop),(∀ a tk,(V b a).P ρ s.heap -> Q a { s with toks:=tk }) -> wpAny (model cx.prog cx.w) A t Q E s):Ay cx A (.ok b H) t V ρ s :=
  k _ _ fun a tk v=>⟨ρ,Full.refl _ _,R.toks tk,v⟩
theorem Rel.newList {xs:List Val} {vs:List Value} (tk:Nat) (R:Rel cx H ρ s) (r:VRs cx ρ s.heap xs vs) (z:xs.length <= sizeLine) :
    ∃ ρ',Full ρ s.heap ρ' (s.heap.push (A8 vs 0)) /\ Rel cx (H++[.list xs]) ρ' { s with heap:=s.heap.push (A8 vs 0),toks:=tk } /\ VR cx ρ' (s.heap.push (A8 vs 0)) (.loc H.length) (.ref s.heap.objs.size):=by
  have kp:∀ b o,s.heap.get? b=some o -> (s.heap.push (A8 vs 0)).get? b=some o:=fun b o e=>Heap.get?_push_of_some _ e
  obtain ⟨F,R'⟩:=R.alloc (tk:=tk) (o:=.list xs) (p:=(s.heap.objs.size,s.heap.objs.size)) kp ⟨Ap _,Ap _⟩
    (.list (n:=0) (Heap.get?_push_size _ rfl) (r.step (Full.alloc kp ⟨Ap _,Ap _⟩).step) z)
  refine ⟨_,F,R',?_⟩
  rw [R.len]
  exact VR.loc (p:=(s.heap.objs.size,s.heap.objs.size)) (by rw [List.getElem?_append_right (Nat.le_refl _)];simp)
theorem Kx {t:Sem Value} {xs:List Val} {vs:List Value} {tk:Nat} (R:Rel cx H ρ s) (r:VRs cx ρ s.heap xs vs) (z:xs.length <= sizeLine)
    (k:∀ (Q:Value -> Shared -> Prop) (E:Value -> Shared -> Prop),Q (.ref s.heap.objs.size) { s with heap:=s.heap.push (A8 vs 0),toks:=tk } -> wpAny (model cx.prog cx.w) A t Q E s) :
    Ay cx A (.ok (.loc H.length) (H++[.list xs])) t (Amb.vr cx) ρ s :=
  k _ _ (R.newList tk r z)
end
theorem Ck:lid=sizeLine:=by skip;rfl
section
variable {cx:Cx} {A:Around} {P:Amb} {a b:Val} {v w:Value}
theorem Qs {x:Int} (h:small x=true):Builtin.Int.intBits x <= 64:=by
  unfold small at h
  simp only [Bool.and_eq_true,decide_eq_true_eq] at h
  exact intBits_le_64 h.1 h.2
theorem Rel.listAt {H:Hp} {ρ:Rho} {s:Shared} (R:Rel cx H ρ s) {l:Nat} {xs:List Val} {p:Addr × Addr} (hH:H[l]?=some (.list xs)) (hρ:ρ[l]?=some p) :
    ∃ vs n,p.2=p.1 /\ s.heap.get? p.1=some (A8 vs n) /\ VRs cx ρ s.heap xs vs /\ xs.length <= sizeLine:=by
  have:=R.objs l _ p hH hρ
  generalize ho:HObj.list xs=o at this
  cases this with
  | list e r z=>cases ho;exact ⟨_,_,rfl,e,r,z⟩
  | dict _ _ _=>cases ho
  | inst _ _ _ _ _ _ _ _ _ _=>cases ho
  | hid _=>cases ho
theorem VR.int_inv {ρ:Rho} {h:Heap} {i:Int} (x:VR cx ρ h (.int i) v):∃ t,v=.int i t:=by cases x;exact ⟨_,rfl⟩
theorem VR.str_inv {ρ:Rho} {h:Heap} {i:Str} (x:VR cx ρ h (.str i) v):∃ t,v=.str i t /\ i.length <= sizeLine:=by cases x;exact ⟨_,rfl,by assumption⟩
theorem VR.none_inv {ρ:Rho} {h:Heap} (x:VR cx ρ h .none v):v=.none:=by cases x;rfl
theorem VR.loc_inv {ρ:Rho} {h:Heap} {l:Nat} (x:VR cx ρ h (.loc l) v):∃ p,ρ[l]?=some p /\ v=.ref p.1:=by cases x;exact ⟨_,by assumption,rfl⟩
theorem VRs.nil_inv {ρ:Rho} {h:Heap} {vs:List Value} (x:VRs cx ρ h [] vs):vs=[]:=by cases x;rfl
theorem VRs.cons_inv {ρ:Rho} {h:Heap} {m:Val} {ms:List Val} {vs:List Value} (x:VRs cx ρ h (m :: ms) vs):∃ v vs',vs=v :: vs' /\ VR cx ρ h m v /\ VRs cx ρ h ms vs':=by cases x;exact ⟨_,_,rfl,by assumption,by assumption⟩
theorem VRs.one_inv {ρ:Rho} {h:Heap} {m:Val} {vs:List Value} (x:VRs cx ρ h [m] vs):∃ v,vs=[v] /\ VR cx ρ h m v:=by
  refine ex2 x.cons_inv fun v vs' zz=>As zz fun zr2 y z=>?_;subst zr2
  exact ⟨v,by rw [z.nil_inv],y⟩
theorem VRs.two_inv {ρ:Rho} {h:Heap} {m n:Val} {vs:List Value} (x:VRs cx ρ h [m,n] vs):∃ v w,vs=[v,w] /\ VR cx ρ h m v /\ VR cx ρ h n w:=by
  refine ex2 x.cons_inv fun v vs' zz=>As zz fun zr2 y z=>?_;subst zr2
  refine ex1 z.one_inv fun w zz=>Ac zz fun hr1 u=>?_;refine Eq.symm hr1▸?_
  exact ⟨v,w,rfl,y,u⟩
theorem Ft (v:Value):∀ (n:Nat) (acc:Array Value),List.foldl (fun (x1 x2:Array Value)=>x1++x2) acc (List.replicate n #[v])=acc++(List.replicate n v).toArray
  | 0,acc=>by simp
  | n+1,acc=>by
    rw [List.replicate_succ,List.foldl_cons,Ft v n]
    apply Array.toList_inj.mp
    simp [List.replicate_succ]
theorem Aga {s:Shared} {l:Addr} {u:Value} {k:Nat} {x:Int} {t:Tok} {Q:Value -> Shared -> Prop} {E:Value -> Shared -> Prop} (hl:s.heap.get? l=some (A8 [u] k)) (h0:0 <= x) (h1:x <= 1000)
    (h:Q (.ref s.heap.objs.size) { s with heap:=s.heap.push (A8 (List.replicate x.toNat u) 0) }):wpAny (model cx.prog cx.w) A (binaryOp .Mult (.ref l) (.int x t)) Q E s:=by
  refine wpAny_binaryOp_repeat_ref (T:="list") (U:="int") (by decide) ⟨_,hl,rfl⟩ (fun s'=>typeIs_int s' x t) noFill_list_mul F.fills_int_mul F.slot_int_rmul repeat_list F.slot_int_index.lookup
    (call_meets F.slot_int_rmul (typeIs_int s x t) F.entry_int_rmul (F.args_int_rmul_2 _ _) (int___rmul___int_list x t l #[u] k)
      ⟨hl,rfl,⟨_,hl,rfl⟩,call_meets F.slot_list_mul ⟨_,hl,rfl⟩ F.entry_list_mul (F.args_list_mul_2 _ _)
        (AutoListH.list___mul___list_int_3 l #[u] k x t (by simp [Builtin.List.listFitsIndex];exact o6 h0 h1) (by have e1:(#[u]:Array Value).size=1:=rfl;rw [e1];omega) (by have e1:(#[u]:Array Value).size=1:=rfl;rw [Builtin.List.listTooLong,e1];simp [sizeLine];exact o7 h0 h1))
        ⟨hl,?_⟩⟩)
  have e:(if (#[u]:Array Value).isEmpty=true then 0 else x.toNat)=x.toNat:=rfl
  rw [e,Ft]
  simpa [A8] using h
set_option tactic.hygienic true in
theorem Acb {op:BOp} {o:Operator} (ho:Ah0 op o=true) (h1:∀ ρ h,P.P ρ h -> VR cx ρ h a v) (h2:∀ ρ h,P.P ρ h -> VR cx ρ h b w):Sim cx A P (binaryOp o v w) (Xl op a b) (Amb.vr cx):=by
  intro H ρ s R p
  have x1:=h1 _ _ p
  have x2:=h2 _ _ p
  clear h1 h2 p
  have ho':bOp op=o:=of_decide_eq_true ho
  subst ho'
  clear ho
  cases op with
  | add =>
    cases a with
    | int i =>
      cases b with
      | int j =>
        obtain ⟨_,rfl⟩:=x1.int_inv
        obtain ⟨_,rfl⟩:=x2.int_inv
        exact Aq R fun Q E k=>PyProof.Rows.add_int (k _ _ (.int _ _))
      | _=>trivial
    | str x =>
      cases b with
      | str y =>
        refine ex1 x1.str_inv fun _ zz=>Ac zz fun zr1 _=>?_;subst zr1
        refine ex1 x2.str_inv fun _ zz=>Ac zz fun hr3 _=>?_;refine Eq.symm hr3▸?_
        show Ay cx A ((if x.length+y.length <= lid then M.ret (Val.str (x++y)) else M.bad) H) _ _ ρ s
        by_cases q:x.length+y.length <= lid
        · rw [if_pos q]
          rw [Ck] at q
          exact Aq R fun Q E k=>PyProof.Rows.add_str (fun t' tk=>k _ _ (.str _ _ (by rw [strLen_append];exact q))) q
        · rw [if_neg q];trivial
      | _=>trivial
    | loc l1 =>
      cases b with
      | loc l2 =>
        refine ex1 x1.loc_inv fun p1 zz=>Ac zz fun e1 hr4=>?_;refine Eq.symm hr4▸?_
        refine ex1 x2.loc_inv fun p2 zz=>Ac zz fun e2 hr5=>?_;refine Eq.symm hr5▸?_
        show Ay cx A (match H[l1]?,H[l2]? with
          | some (.list xs),some (.list ys)=>if xs.length+ys.length <= lid then M.alloc (.list (xs++ys)) H else .bad
          | _,_=>.bad) _ _ ρ s
        cases q1:H[l1]? with
        | none=>trivial
        | some o1 =>
        cases o1 with
        | list xs =>
          cases q2:H[l2]? with
          | none=>trivial
          | some o2 =>
          cases o2 with
          | list ys =>
           refine Ah fun G kG=>?_
           refine ex2 (R.listAt q1 e1) fun vs n zz=>By zz fun _ g1 r1 _=>?_
           refine ex2 (R.listAt q2 e2) fun ws m zz=>By zz fun _ g2 r2 _=>?_
           refine kG ?_
           show Ay cx A (if xs.length+ys.length <= lid then M.alloc (.list (xs++ys)) H else .bad) _ _ ρ s
           by_cases q:xs.length+ys.length <= lid
           · rw [if_pos q]
             rw [Ck] at q
             refine Kx (vs:=vs++ws) (tk:=s.toks) R (r1.append r2) (by rw [List.length_append];exact q) fun Q E k=>?_
             refine PySem.P.add_list (items:=vs.toArray) (items2:=ws.toArray) (n:=n) (n2:=m) g1 g2 ?_ (by simp only [List.size_toArray];rw [<- r1.length,<- r2.length];exact q)
             simpa [A8] using k
           · rw [if_neg q];trivial
          | _=>trivial
        | _=>trivial
      | _=>trivial
    | _=>trivial
  | sub =>
    cases a with
    | int i =>
      cases b with
      | int j =>
        obtain ⟨_,rfl⟩:=x1.int_inv
        obtain ⟨_,rfl⟩:=x2.int_inv
        exact Aq R fun Q E k=>PyProof.Rows.sub_int (k _ _ (.int _ _))
      | _=>trivial
    | _=>trivial
  | mul =>
    cases a with
    | int i =>
      cases b with
      | int j =>
        obtain ⟨_,rfl⟩:=x1.int_inv
        obtain ⟨_,rfl⟩:=x2.int_inv
        show Ay cx A ((if (small i || small j)=true then M.ret (Val.int (i * j)) else M.bad) H) _ _ ρ s
        by_cases q:(small i || small j)=true
        · rw [if_pos q]
          refine Aq R fun Q E k=>PyProof.Rows.mul_int (k _ _ (.int _ _)) ?_
          rcases (Bool.or_eq_true _ _).mp q with q | q
          · exact IntMulOk.of_left (Qs q)
          · exact IntMulOk.of_right (Qs q)
        · rw [if_neg q];trivial
      | _=>trivial
    | loc l1 =>
      cases b with
      | int j =>
        refine ex1 x1.loc_inv fun p1 zz=>Ac zz fun e1 zr2=>?_;subst zr2
        obtain ⟨_,rfl⟩:=x2.int_inv
        show Ay cx A (match H[l1]? with
          | some (.list [v])=>if 0 <= j /\ j <= 1000 then M.alloc (.list (List.replicate j.toNat v)) H else .bad
          | _=>.bad) _ _ ρ s
        split
        · rename_i y q1
          refine Ah fun G kG=>?_
          refine ex2 (R.listAt q1 e1) fun vs n zz=>By zz fun _ g1 r1 _=>?_
          refine kG ?_
          by_cases q:0 <= j /\ j <= 1000
          · rw [if_pos q]
            refine ex1 r1.one_inv fun u zz=>Ac zz fun zr1 r2=>?_;subst zr1
            refine Kx (vs:=List.replicate _ u) (tk:=s.toks) R (VRs.replicate r2 _) (by rw [List.length_replicate,sizeLine_eq];exact o8 q) fun Q E k=>?_
            exact Aga g1 q.1 q.2 k
          · rw [if_neg q];trivial
        · trivial
      | _=>trivial
    | _=>trivial
  | fdiv =>
    cases a with
    | int i =>
      cases b with
      | int j =>
        obtain ⟨_,rfl⟩:=x1.int_inv
        obtain ⟨_,rfl⟩:=x2.int_inv
        show Ay cx A ((if j=0 \/ 1073741824 <= j.natAbs then M.bad else M.ret (Val.int (Int.fdiv i j))) H) _ _ ρ s
        by_cases q:j=0 \/ 1073741824 <= j.natAbs
        · rw [if_pos q];trivial
        · rw [if_neg q]
          exact Aq R fun Q E k=>PyProof.Rows.floordiv_int (fun e=>q (.inl e)) (k _ _ (.int _ _)) (.inl (PyProof.noPylong_small (by exact o9 q)))
      | _=>trivial
    | _=>trivial
  | mod =>
    cases a with
    | int i =>
      cases b with
      | int j =>
        obtain ⟨_,rfl⟩:=x1.int_inv
        obtain ⟨_,rfl⟩:=x2.int_inv
        show Ay cx A ((if j=0 then M.bad else M.ret (Val.int (Int.fmod i j))) H) _ _ ρ s
        by_cases q:j=0
        · rw [if_pos q];trivial
        · rw [if_neg q]
          exact Aq R fun Q E k=>PyProof.Rows.mod_int' q (k _ _ (.int _ _))
      | _=>trivial
    | _=>trivial
end
structure FnOk (cx:Cx) (N:Names) (a:Addr) (f:MFun):Prop where
  is:∃ o fd body ns,cx.h₀.get? a=some o /\ o.cls=.type "function" /\ o.data=.func fd /\ cx.h₀.CodeRec fd.code fd.qualname /\ fd.body=.stmts body /\ fd.closure=[] /\ fd.globals=mainGlobals /\ fd.builtins=builtinsNs /\
    fd.defaults=.none /\ fd.kwdefaults=.none /\ ckF N f ns fd.params body fd.scope=true
structure ClsOk (cx:Cx) (N:Names) (c:Nat) (C:Addr):Prop where
  is:∃ nm q Nn bs sn sub col dd k0 k1 k2 k3 k5 mN,cx.h₀.get? C=some (excClassObj nm q C Nn bs [.type "object"] true sn sub false col dd k0 k1 k2 k3 k5 "object.__new__") /\ cx.h₀.Ns Nn mN /\
    mN "__getattribute__"=none /\ mN "__getattr__"=none /\ mN "__setattr__"=none /\
    (∀ (n:Nat) (y:Str),cx.attrs[n]?=some y -> mN y=none /\ typeLookup (.type "object") y=pure none) /\
    (∀ (y:Str) (m k:Nat),N.meths.lookup y=some m -> cx.T.meth c m=some k -> ∃ fa o fd,cx.fns[k]?=some fa /\ mN y=some (.ref fa) /\ cx.h₀.get? fa=some o /\ o.cls=.type "function" /\ o.data=.func fd /\ (∀ n:Nat,cx.attrs[n]?≠some y) /\ ∃ r,typeLookup (.type "object") y=pure r)
structure ClsBase (cx:Cx) (N:Names):Prop where
  attr:∀ (y:Str) (n:Nat),N.attrs.lookup y=some n -> cx.attrs[n]?=some y
  inj:∀ (i j:Nat) (y:Str),cx.attrs[i]?=some y -> cx.attrs[j]?=some y -> i=j
  few:cx.attrs.length <= sizeLine
  init:N.meths.lookup ("__init__":Str)=some 0
  ref:∀ (c:Nat) (v:Value),cx.cls[c]?=some v -> (cx.T.meth c 0).isSome=true -> ∃ C,v=.ref C
  cls:∀ (c:Nat) (C:Addr),cx.cls[c]?=some (.ref C) -> (cx.T.meth c 0).isSome=true -> ClsOk cx N c C
structure Base (cx:Cx) (N:Names):Prop where
  ns:∃ mg mb,cx.h₀.Ns mainGlobals mg /\ cx.h₀.Ns builtinsNs mb /\
    (∀ x k,N.funs.lookup x=some k -> ∃ a,cx.fns[k]?=some a /\ mg x=some (.ref a)) /\
    (∀ x k,N.globs.lookup x=some k -> ∃ v val,cx.T.globs[k]?=some v /\ mg x=some val /\ ∀ ρ h,VR cx ρ h v val) /\
    (∀ x c,N.clss.lookup x=some c -> ∃ C,cx.cls[c]?=some C /\ (mg x=some C \/ (mg x=none /\ mb x=some C))) /\
    (∀ p∈Ep,mg p.1=none /\ mb p.1=some p.2)
  lim:cx.h₀.NoLimit
  fns:∀ (k:Nat) (a:Addr) (f:MFun),cx.fns[k]?=some a -> cx.T.funs[k]?=some f -> FnOk cx N a f
  cls:ClsBase cx N
theorem C8 {l:List (Str × Nat)} {x:Str} {k:Nat} (h:Do l x k=true):l.lookup x=some k:=of_decide_eq_true h
theorem T6 {sc:Scope} {x:Str} (h:Bd sc x=true):sc.names.lookup x=some .globalImplicit /\ (x == ("__debug__":Str))=false:=⟨of_decide_eq_true (an1 h),not_not (an2 h)⟩
theorem X1 {sc:Scope} {ns:List (Option Str)} {i:Nat} {x:Str} (h:X0 sc ns i x=true) :
    (sc.names.lookup x=some .local \/ sc.names.lookup x=some .cell \/ sc.names.lookup x=some .free) /\ ns[i]?=some (some x) /\ (x == ("__debug__":Str))=false /\ (x == ("__classdict__":Str))=false :=
  ⟨((Bool.or_eq_true _ _).mp (an1 h)).imp of_decide_eq_true T3,of_decide_eq_true (an1 (an2 h)),not_not (an1 (an2 (an2 h))),not_not (an2 (an2 (an2 h)))⟩
section
variable {cx:Cx} {N:Names} {A:Around} {env:Env} {sc:Scope} {ns:List (Option Str)} {Γ:Env'}
theorem Acc {i:Nat} {x:Str} {pos:Pos} (hv:X0 sc ns i x=true) (Φ:Funs):Sim cx A (Amb.env cx env sc ns Γ) (eval (.Name x pos) env) (Ai cx.T Φ (.var i) Γ) (Amb.vr cx):=by
  refine Ah fun G kG=>?_
  refine By (X1 hv) fun _ hn hd hc=>?_
  refine kG ?_
  intro H ρ s R p
  rw [Afr]
  cases e:Γ[i]? with
  | none=>trivial
  | some o =>
    cases o with
    | none=>trivial
    | some mv =>
      refine ex1 (p.vals i x mv hn e) fun v zz=>Ac zz fun q r=>?_
      refine Aq R fun Q E k=>?_
      have k':=k v s.toks r
      rcases q with ⟨kd,m,hm,hv⟩ | ⟨kd,c,hc',hv⟩
      · exact wpAny_Name (wpAny_loadName_local p.st.fn kd hm hv k') hd
      · rcases kd with kd | kd
        · exact wpAny_Name (wpAny_loadName_cell p.st.fn kd hc' hv k') hd
        · exact wpAny_Name (wpAny_loadName_free p.st.fn kd hc' hv k' hc) hd
theorem wp_glob {ρ:Rho} {s:Shared} {H:Hp} {x:Str} {pos:Pos} {mg mb:Str -> Option Value} {v:Value} {Q:Value -> Shared -> Prop} {E:Value -> Shared -> Prop} (R:Rel cx H ρ s) (p:EnvSt cx env sc ρ s.heap) (hg:Bd sc x=true)
    (ng:cx.h₀.Ns mainGlobals mg) (nb:cx.h₀.Ns builtinsNs mb) (hv:mg x=some v \/ (mg x=none /\ mb x=some v)) (h:Q v s):wpAny (model cx.prog cx.w) A (eval (.Name x pos) env) Q E s:=by
  obtain ⟨h1,h2⟩:=T6 hg
  have kd:env.kindOf x=some .globalImplicit:=p.kinds x _ h1
  have ng':s.heap.Ns env.globals mg:=by rw [p.glob];exact ng.keeps R.base
  have nb':s.heap.Ns env.builtins mb:=by rw [p.blt];exact nb.keeps R.base
  refine Calls.Name_function_global p.fn kd ?_ h2
  rcases hv with hv | ⟨h0,hv⟩
  · exact Calls.loadGlobal_global ng' hv h
  · exact Calls.loadGlobal_builtin ng' h0 nb' hv h
theorem X3 (B:Base cx N) {k:Nat} {x:Str} {pos:Pos} (hg:Bd sc x=true) (hk:Do N.globs x k=true) (Φ:Funs):Sim cx A (Amb.env cx env sc ns Γ) (eval (.Name x pos) env) (Ai cx.T Φ (.glob k) Γ) (Amb.vr cx):=by
  refine Ah fun G kG=>?_
  refine ex2 B.ns fun mg mb zz=>Fe zz fun ng nb _ q _=>?_
  refine ex2 (q x k (C8 hk)) fun v val zz=>As zz fun e1 e2 r=>?_
  refine kG ?_
  intro H ρ s R p
  rw [Ab3,e1]
  exact Aq R fun Q E k=>wp_glob R p.st hg ng nb (.inl e2) (k _ s.toks (r _ _))
theorem Sb {a:Val} {v:Value} {P:Amb} (h:∀ ρ h,P.P ρ h -> VR cx ρ h a v):Sim cx A P (truthy v) (Dn a) (fun b b'=>Amb.prop (b'=b)):=by
  intro H ρ s R p
  have x:=h _ _ p
  cases x with
  | bool b=>exact Aq R fun Q E k=>wpAny_truthy_bool (k _ s.toks rfl)
  | _=>trivial
theorem Acd {a:Val} {v:Value} {P:Amb} (h:∀ ρ h,P.P ρ h -> VR cx ρ h a v):Sim cx A P (unaryOp .USub v) (match a with | .int i=>M.ret (Val.int (-i)) | _=>.bad) (Amb.vr cx):=by
  intro H ρ s R p
  have x:=h _ _ p
  cases x with
  | int i t=>exact Aq R fun Q E k=>PyProof.Rows.neg_int (k _ _ (.int _ _))
  | _=>trivial
theorem Ace {a:Val} {v:Value} {P:Amb} (h:∀ ρ h,P.P ρ h -> VR cx ρ h a v):Sim cx A P (unaryOp .Not v) ((Dn a).bnd fun b=>M.ret (Val.bool (!b))) (Amb.vr cx):=by
  intro H ρ s R p
  have x:=h _ _ p
  cases x with
  | bool b=>exact Aq R fun Q E k=>not_value (wpAny_truthy_bool (k _ s.toks (.bool _)))
  | _=>trivial
end
section
variable {cx:Cx} {H:Hp} {ρ:Rho} {s:Shared}
theorem Hc {n:Nat} {f:Val -> Option PyData} (ih:∀ {m:Val} {v:Value} {d:PyData},VR cx ρ s.heap m v -> f m=some d -> (∃ as,Reads s.heap v d as) /\ d.canLay0=true /\ d.depth <= n) :
    ∀ {xs:List Val} {vs:List Value} {ds:List PyData},VRs cx ρ s.heap xs vs -> Id f xs=some ds -> (∃ as,ReadsAll s.heap vs ds as) /\ PyData.canLayAll0 ds=true /\ PyData.depthAll ds <= n:=by
  intro xs
  induction xs with
  | nil =>
    intro vs ds r h
    cases r
    cases h
    exact ⟨⟨_,.nil⟩,rfl,Nat.zero_le _⟩
  | cons x xs hi =>
    intro vs ds r h
    cases r with
    | cons a r =>
      refine Tv (C:=fun ds=>(∃ as,ReadsAll s.heap _ ds as) /\ PyData.canLayAll0 ds=true /\ PyData.depthAll ds <= n) h fun d ds' e1 e2=>?_
      refine Ah fun G kG=>?_
      refine As (ih a e1) fun zn0 h2 h3=>?_;obtain ⟨as,h1⟩:=zn0
      refine As (hi r e2) fun zn0 g2 g3=>?_;obtain ⟨bs,g1⟩:=zn0
      refine kG ?_
      exact ⟨⟨_,.cons h1 g1⟩,(Bool.and_eq_true _ _).mpr ⟨h2,g2⟩,Nat.max_le.mpr ⟨h3,g3⟩⟩
theorem Lx {α:Type} {p:Prop} [Decidable p] {x y:α} (h:(if p then some x else none)=some y):p /\ x=y:=by
  by_cases q:p
  · rw [if_pos q] at h;exact ⟨q,Option.some.inj h⟩
  · rw [if_neg q] at h;exact Aa h
theorem Dz {n:Nat} {m:Val} {v:Value} {d:PyData} (x:VR cx ρ s.heap m v) (h:Ql m=some d):(∃ as,Reads s.heap v d as) /\ d.canLay0=true /\ d.depth <= n:=by
  cases x with
  | none=>cases h;exact ⟨⟨_,.none⟩,rfl,Nat.zero_le _⟩
  | bool b=>cases h;exact ⟨⟨_,.bool b⟩,rfl,Nat.zero_le _⟩
  | int i t=>cases h;exact ⟨⟨_,.int i t⟩,rfl,Nat.zero_le _⟩
  | str y t z =>
    obtain ⟨h1,h2⟩:=Lx h
    cases h2;exact ⟨⟨_,.str y t⟩,h1,Nat.zero_le _⟩
  | _=>exact Aa h
theorem Cl (R:Rel cx H ρ s):∀ (n:Nat) {m:Val} {v:Value} {d:PyData},VR cx ρ s.heap m v -> Az H n m=some d -> (∃ as,Reads s.heap v d as) /\ d.canLay0=true /\ d.depth <= n:=by
  intro n
  induction n with
  | zero=>exact fun x h=>Dz x h
  | succ n ih =>
    intro m v d x h
    cases x with
    | @tup a vs k ms e no z r =>
      refine Ah fun G kG=>?_
      refine ex1 (Option.map_eq_some_iff.mp h) fun ds zz=>Ac zz fun h1 zr2=>?_;subst zr2
      refine As (Hc (n:=n) (fun x h=>ih x h) r h1) fun zn0 g2 g3=>?_;obtain ⟨as,g1⟩:=zn0
      refine kG ?_
      exact ⟨⟨_,.tuple e rfl rfl (by simpa using g1)⟩,g2,Nat.succ_le_succ g3⟩
    | @loc l p e =>
      have h:(match H[l]? with | some (.list vs)=>(Id (Az H n) vs).map .list | _=>none)=some d:=h
      cases hl:H[l]? with
      | none=>rw [hl] at h;exact Aa h
      | some o =>
        rw [hl] at h
        cases o with
        | list xs =>
          refine Ah fun G kG=>?_
          refine ex1 (Option.map_eq_some_iff.mp h) fun ds zz=>Ac zz fun h1 zr2=>?_;subst zr2
          refine ex2 (R.listAt hl e) fun vs k zz=>By zz fun _ g r _=>?_
          refine As (Hc (n:=n) (fun x h=>ih x h) r h1) fun zn0 g2 g3=>?_;obtain ⟨as,g1⟩:=zn0
          refine kG ?_
          exact ⟨⟨_,.list g rfl rfl (by simpa using g1)⟩,g2,Nat.succ_le_succ g3⟩
        | _=>exact Aa h
    | none=>exact Dz (cx:=cx) (ρ:=ρ) .none h
    | bool b=>exact Dz (cx:=cx) (ρ:=ρ) (.bool b) h
    | int i t=>exact Dz (cx:=cx) (ρ:=ρ) (.int i t) h
    | str y t z=>exact Dz (cx:=cx) (ρ:=ρ) (.str y t z) h
    | _=>exact Aa h
end
section
variable {cx:Cx} {A:Around} {P:Amb} {a b:Val} {v w:Value} {H:Hp} {ρ:Rho} {s:Shared}
theorem Gi {d:PyData} (h:d.canLay0=true) (k:d.depth <= Eu):SeqAt.shaped d=true:=by
  unfold SeqAt.shaped;rw [h];exact decide_eq_true (Nat.le_trans k (show 6 <= 64 by decide))
theorem Ai0 (R:Rel cx H ρ s) (x:VR cx ρ s.heap a v) (y:VR cx ρ s.heap b w) {r:Bool} (e:Ev H a b=some r) (hu:A.units+100 < cLine) {Q:Value -> Shared -> Prop} {E:Value -> Shared -> Prop} (k:Q (.bool r) s) :
    wpAny (model cx.prog cx.w) A (compareOp .Eq v w) Q E s:=by
  revert k
  refine Xw (C:=fun r=>Q (.bool r) s -> _) e fun d1 d2 e1 e2 k=>?_
  refine Ah fun G kG=>?_
  refine As (Cl R Eu x e1) fun zn0 g2 g3=>?_;obtain ⟨as,g1⟩:=zn0
  refine As (Cl R Eu y e2) fun zn0 f2 f3=>?_;obtain ⟨bs,f1⟩:=zn0
  refine kG ?_
  exact SeqAt.compareEq_shaped g1 f1 (Gi g2 g3) (Gi f2 f3) (by exact o10 hu) k
theorem Ai1 (R:Rel cx H ρ s) (x:VR cx ρ s.heap a v) (y:VR cx ρ s.heap b w) {r:Bool} (e:Ev H a b=some r) (hu:A.units+100 < cLine) {Q:Value -> Shared -> Prop} {E:Value -> Shared -> Prop} (k:Q (.bool (!r)) s) :
    wpAny (model cx.prog cx.w) A (compareOp .NotEq v w) Q E s:=by
  revert k
  refine Xw (C:=fun r=>Q (.bool (!r)) s -> _) e fun d1 d2 e1 e2 k=>?_
  refine Ah fun G kG=>?_
  refine As (Cl R Eu x e1) fun zn0 g2 g3=>?_;obtain ⟨as,g1⟩:=zn0
  refine As (Cl R Eu y e2) fun zn0 f2 f3=>?_;obtain ⟨bs,f1⟩:=zn0
  refine kG ?_
  exact SeqAt.compareNe_shaped g1 f1 (Gi g2 g3) (Gi f2 f3) (by exact o10 hu) k
theorem Ng {r:Bool} (x:VR cx ρ s.heap a v) (h:isV a .none=some r):r=(v == .none):=by
  cases x with
  | none=>exact (Option.some.inj h).symm
  | _=>exact (Option.some.inj h).symm
set_option tactic.hygienic true in
theorem Ht {r y:Bool} (x:VR cx ρ s.heap a v) (h:isV a (.bool y)=some r):plainIs v (.bool y)=true /\ r=(v == .bool y):=by
  cases x <;> simp_all [isV,plainIs]
  rename_i b
  rw [<- h];cases b <;> cases y <;> rfl
theorem Rel.dictAt (R:Rel cx H ρ s) {l:Nat} {es:List (Key × Val)} {p:Addr × Addr} (hH:H[l]?=some (.dict es)) (hρ:ρ[l]?=some p) :
    ∃ xs,p.2=p.1 /\ s.heap.DictOfH (cellKind cx) p.1 xs /\ DRs cx ρ s.heap es xs /\ es.length <= sizeLine:=by
  have:=R.objs l _ p hH hρ
  generalize ho:HObj.dict es=o at this
  cases this with
  | list e r z=>exact nomatch ho
  | dict d r z=>cases ho;exact ⟨_,rfl,d,r,z⟩
  | inst _ _ _ _ _ _ _ _ _ _=>exact nomatch ho
  | hid _=>cases ho
theorem Aax {k:Int} {t:Tok}:(intKind cx.prog cx.w).is k (.int k t)=true:=by simp [intKind,Value.isInt]
theorem Nh {k:Key} (x:VR cx ρ s.heap a v) (h:Ec a=some k):∃ b,v=.ref b /\ (cellKind cx).is s.heap [k.1,k.2] b /\ ¬ Aw ρ b:=by
  rw [Tu h] at x
  cases x with
  | @tup b vs n ms e no z r =>
    refine Ah fun G kG=>?_
    refine ex2 r.two_inv fun u w zz=>As zz fun ev r1 r2=>?_
    obtain ⟨t1,e1⟩:=r1.int_inv
    obtain ⟨t2,e2⟩:=r2.int_inv
    refine kG ?_
    exact ⟨b,rfl,⟨_,vs.toArray,n,e,rfl,rfl,ev▸e1▸e2▸.cons Aax (.cons Aax .nil)⟩,no⟩
theorem DRs.atKey {es:List (Key × Val)} {xs:List (List Int × Addr × Value)} (r:DRs cx ρ s.heap es xs) (k:Key) :
    match Ex es k,atKey xs [k.1,k.2] with
    | some m,some p=>VR cx ρ s.heap m p.2
    | none,none=>True
    | _,_=>False:=by
  induction r with
  | nil=>simp [Ex,PySem.atKey]
  | @cons k' v' b x es xs a n _ ih =>
    by_cases q:k'=k
    · refine q▸?_
      simp [Ex,PySem.atKey,a]
    · have q':¬ ([k'.1,k'.2]=[k.1,k.2]):=fun e=>q (by
        simp only [List.cons.injEq,and_true] at e
        exact Prod.ext e.1 e.2)
      have q2:(k == k')=false:=by simpa using fun e:k=k'=>q e.symm
      have e1:Ex ((k',v') :: es) k=Ex es k:=by simp [Ex,List.lookup_cons,q2]
      have e2:PySem.atKey (([k'.1,k'.2],b,x) :: xs) [k.1,k.2]=PySem.atKey xs [k.1,k.2]:=by
        unfold PySem.atKey
        rw [List.find?_cons]
        simp only [decide_eq_false q']
      rw [e1,e2]
      exact ih
theorem DRs.isSome {es:List (Key × Val)} {xs:List (List Int × Addr × Value)} (r:DRs cx ρ s.heap es xs) (k:Key):(PySem.atKey xs [k.1,k.2]).isSome=(Ex es k).isSome:=by
  have:=r.atKey k
  cases h1:Ex es k <;> cases h2:PySem.atKey xs [k.1,k.2] <;> simp_all
theorem Kh (R:Rel cx H ρ s) {l:Nat} {p:Addr × Addr} (hρ:ρ[l]?=some p):(p.1 == sysModules)=false:=by
  obtain ⟨o,e⟩:=R.sys
  have:=(R.new p (List.mem_of_getElem? hρ)).1
  simpa using fun w:p.1=sysModules=>by rw [w,e] at this;exact nomatch this
theorem Aay (R:Rel cx H ρ s) (x:VR cx ρ s.heap a v) (y:VR cx ρ s.heap b w) {r:Bool} (e:inV a b H=some r) {C:Value -> Value -> Bool -> Prop}
    (k1:∀ {p d ds as bs},Reads s.heap (.ref p) (.list ds) bs -> Reads s.heap v d as -> PyData.canLayAll0 ds=true -> d.canLay0=true -> min (PyData.depthAll ds) d.depth <= 6 -> C v (.ref p) (ds.any fun y=>PyData.eqv y d))
    (k2:∀ {p:Addr} {bb:Addr} {kk:Key} {xs},(cellKind cx).is s.heap [kk.1,kk.2] bb -> (p == sysModules)=false -> s.heap.DictOfH (cellKind cx) p xs -> C (.ref bb) (.ref p) (PySem.atKey xs [kk.1,kk.2]).isSome)
    (k3:∀ x y t u,C (.str x t) (.str y u) (Txt.contains y x)):C v w r:=by
  cases y with
  | @loc l p hp =>
    refine Ail (C:=C v (.ref p.1)) e (fun ys hl e=>?_) fun es k hl ek=>?_
    · refine ex2 (R.listAt hl hp) fun vs n zz=>By zz fun _ g rr _=>?_
      refine Afv (C:=C v (.ref p.1)) e fun d ds e1 e2=>?_
      refine Ah fun G kG=>?_
      refine As (Cl R Eu x e1) fun zn0 g2 g3=>?_;obtain ⟨as,g1⟩:=zn0
      refine As (Hc (n:=Eu) (fun x h=>Cl R Eu x h) rr e2) fun zn0 f2 f3=>?_;obtain ⟨bs,f1⟩:=zn0
      refine kG ?_
      exact k1 (.list g rfl rfl (by simpa using f1)) g1 f2 g2 (Nat.le_trans (Nat.min_le_right _ _) g3)
    · refine ex1 (R.dictAt hl hp) fun xs zz=>By zz fun _ D rr _=>?_
      refine ex1 (Nh x ek) fun bb zz=>As zz fun hr0 hk _=>?_;refine Eq.symm hr0▸?_
      exact rr.isSome k▸k2 hk (Kh R hp) D
  | str y t z =>
    cases x with
    | str x t' z'=>exact Option.some.inj e▸k3 _ _ _ _
    | _=>exact Aa e
  | _=>exact Aa e
theorem Ai2 (R:Rel cx H ρ s) (x:VR cx ρ s.heap a v) (y:VR cx ρ s.heap b w) {r:Bool} (e:inV a b H=some r) (hu:A.units+100 < cLine) {Q:Value -> Shared -> Prop} {E:Value -> Shared -> Prop} (k:∀ tk,Q (.bool r) { s with toks:=tk }) :
    wpAny (model cx.prog cx.w) A (compareOp .In v w) Q E s :=
  Aay (C:=fun v w r=>(∀ tk,Q (.bool r) { s with toks:=tk }) -> wpAny (model cx.prog cx.w) A (compareOp .In v w) Q E s) R x y e
    (fun f g f2 g2 z k=>SeqAt.in_list_reads f g f2 g2 (Nat.lt_of_le_of_lt (Nat.add_le_add_left z _) (by exact o11 hu)) (k s.toks))
    (fun hk q D k=>wpAny_in_heap (knd:=cellKind cx) (tupleKind_room_in1 (by exact o12 hu)) hk q D (k _))
    (fun _ _ _ _ k=>SB.contains (k s.toks)) k
theorem X4 (R:Rel cx H ρ s) (x:VR cx ρ s.heap a v) (y:VR cx ρ s.heap b w) {r:Bool} (e:inV a b H=some r) (hu:A.units+100 < cLine) {Q:Value -> Shared -> Prop} {E:Value -> Shared -> Prop} (k:∀ tk,Q (.bool (!r)) { s with toks:=tk }) :
    wpAny (model cx.prog cx.w) A (compareOp .NotIn v w) Q E s :=
  Aay (C:=fun v w r=>(∀ tk,Q (.bool (!r)) { s with toks:=tk }) -> wpAny (model cx.prog cx.w) A (compareOp .NotIn v w) Q E s) R x y e
    (fun f g f2 g2 z k=>SeqAt.notIn_list_reads f g f2 g2 (Nat.lt_of_le_of_lt (Nat.add_le_add_left z _) (by exact o11 hu)) (k s.toks))
    (fun hk q D k=>PyProof.Rows.wpAny_notIn_heap (knd:=cellKind cx) (tupleKind_room_in1 (by exact o12 hu)) hk q D (k _))
    (fun _ _ _ _ k=>SB.notContains (k s.toks)) k
theorem Ni {f g:Val -> Option PyData} (h:∀ m d,f m=some d -> g m=some d):∀ {xs:List Val} {ds:List PyData},Id f xs=some ds -> Id g xs=some ds
  | [],ds,e=>e
  | x :: xs,ds,e=>by
    refine Tv (C:=fun ds=>Id g (x :: xs)=some ds) e fun d ds' e1 e2=>?_
    show (match g x,Id g xs with
      | some d,some ds=>some (d :: ds)
      | _,_=>none)=_
    rw [h _ _ e1,Ni h e2]
theorem Ly:∀ (n:Nat) (m:Val) (d:PyData),Az [] n m=some d -> Az H n m=some d
  | 0,m,d,e=>by cases m <;> exact e
  | n+1,m,d,e=>by
    cases m with
    | tup vs =>
      refine ex1 (Option.map_eq_some_iff.mp e) fun ds zz=>Ac zz fun e1 e2=>?_
      exact Option.map_eq_some_iff.mpr ⟨ds,Ni (Ly n) e1,e2⟩
    | loc l=>exact Aa e
    | _=>exact e
theorem Qt {r:Bool} (h:Ev [] a b=some r):Ev H a b=some r:=by
  refine Xw (C:=fun r=>Ev H a b=some r) h fun d1 d2 e1 e2=>?_
  delta Ev
  rw [Ly _ _ _ e1,Ly _ _ _ e2]
theorem VR.tup_inv {h:Heap} {ms:List Val} (x:VR cx ρ h (.tup ms) v):∃ p vs n,v=.ref p /\ h.get? p=some (T0 vs n) /\ VRs cx ρ h ms vs:=by cases x;exact ⟨_,_,_,rfl,by assumption,by assumption⟩
theorem Gj (R:Rel cx H ρ s) (x:VR cx ρ s.heap a v) (y:VR cx ρ s.heap b w) {r:Bool} (e:Ev H a b=some r) (hu:A.units+10 < cLine) {Q:Bool -> Shared -> Prop} {E:Value -> Shared -> Prop} (k:Q r s) :
    wpAny (model cx.prog cx.w) A (eqBool v w) Q E s:=by
  revert k
  refine Xw (C:=fun r=>Q r s -> _) e fun d1 d2 e1 e2 k=>?_
  refine Ah fun G kG=>?_
  refine As (Cl R Eu x e1) fun zn0 g2 g3=>?_;obtain ⟨as,g1⟩:=zn0
  refine As (Cl R Eu y e2) fun zn0 f2 f3=>?_;obtain ⟨bs,f1⟩:=zn0
  refine kG ?_
  exact SeqAt.eqBoolOverData _ _ _ _ _ _ _ _ _ _ _ _ g1 f1 g2 f2 (Nat.lt_of_le_of_lt (Nat.add_le_add_left (Nat.le_trans (Nat.min_le_left _ _) g3) _) (show A.units+6 < cLine by exact o13 hu)) k
theorem T7 (R:Rel cx H ρ s):∀ (n:Nat) (A:Around) (a b:Val) (v w:Value) (r:Bool) (Q:Value -> Shared -> Prop) (E:Value -> Shared -> Prop),VR cx ρ s.heap a v -> VR cx ρ s.heap b w -> Qm n a b=some r -> A.units+20+n < cLine -> Q (.bool r) s -> wpAny (model cx.prog cx.w) A (richCompare .Lt v w) Q E s
  | 0,_,_,_,_,_,_,_,_,_,_,h,_,_=>by exact Aa h
  | n+1,A,a,b,v,w,r,Q,E,x,y,h,hu,k=>by
    refine Aik (C:=fun a b r=>VR cx ρ s.heap a v -> VR cx ρ s.heap b w -> Q (.bool r) s -> _) h (fun i j x y k=>?_) (fun ms ks h x y k=>?_) x y k
    · obtain ⟨t,hr0⟩:=x.int_inv;refine Eq.symm hr0▸?_
      obtain ⟨u,hr1⟩:=y.int_inv;refine Eq.symm hr1▸?_
      exact PyProof.Rows.lt_int k
    · obtain ⟨p,vs,n1,hr2,g1,r1⟩:=x.tup_inv;refine Eq.symm hr2▸?_
      obtain ⟨q,ws,n2,hr3,g2,r2⟩:=y.tup_inv;refine Eq.symm hr3▸?_
      have T1:s.TypeIs (.ref p) "tuple":=⟨_,g1,rfl⟩
      have T2:s.TypeIs (.ref q) "tuple":=⟨_,g2,rfl⟩
      refine wpAny_richCompare_same_room (T:="tuple") T1 T2 F.slot_tuple_lt (wpAny_call_entry F.slot_tuple_lt T1 F.entry_tuple_lt ?_ (F.args_tuple_lt_2 _ _)) (by exact o14 hu)
      have fin:∀ (z:Bool),z=r -> (∃ v,(Fin.done (.ret (.bool z)):Fin)=.done (.ret v) /\ v≠.notImplemented /\ Q v s):=fun z e=>⟨.bool z,rfl,by simp,by rw [e];exact k⟩
      show wpAny _ _ (isInstance (.ref q) (.type "tuple")>>=_) _ _ s
      refine wpAny_bind (wpAny_isInstance T2 isSubtype_tuple_tuple ?_)
      simp only [Bool.not_true,Bool.false_eq_true,if_false]
      refine wpAny_bind (wpAny_tupleItemsOf g1 rfl ?_)
      refine wpAny_bind (wpAny_tupleItemsOf g2 rfl ?_)
      refine wpAny_bind ?_
      refine wpAny_forIn_list _
        (fun rest z s'=>z.1=none /\ s'=s /\ ∃ ms' ks' vs' ws',rest=List.zip vs' ws' /\ VRs cx ρ s.heap ms' vs' /\ VRs cx ρ s.heap ks' ws' /\ lts (Ev []) (Qm n) ms' ks'=some r /\ decide (vs'.length < ws'.length)=decide (vs.toArray.size < ws.toArray.size))
        _ ?_ ?_ _ _ ⟨rfl,rfl,ms,ks,vs,ws,rfl,r1,r2,h,by simp⟩
      · intro ce rest z s' zz
        obtain ⟨hz,hs',ms',ks',vs',ws',hzip,q1,q2,hl,hlen⟩:=zz
        obtain ⟨c,e⟩:=ce
        rw [hs']
        clear hs' s'
        cases q1 with
        | nil=>simp at hzip
        | cons a1 q1 =>
          cases q2 with
          | nil=>simp at hzip
          | cons a2 q2 =>
            simp only [List.zip_cons_cons,List.cons.injEq,Prod.mk.injEq] at hzip
            obtain ⟨⟨rfl,rfl⟩,rfl⟩:=hzip
            rcases Qq hl with ⟨he,hl'⟩ | ⟨he,hl'⟩
            · refine wpAny_bind (Gj R a1 a2 (Qt he) (by simp only [Around.in1_units];exact o15 hu) ?_)
              simp only [Bool.not_true,Bool.false_eq_true,if_false]
              exact wpAny_pure ⟨rfl,rfl,_,_,_,_,rfl,q1,q2,hl',by simpa using hlen⟩
            · refine wpAny_bind (Gj R a1 a2 (Qt he) (by simp only [Around.in1_units];exact o15 hu) ?_)
              simp only [Bool.not_false,if_true]
              refine wpAny_bind (wpAny_rule ?_)
              refine wpAny_bind (T7 R n A.in1 _ _ _ _ r _ _ a1 a2 hl' (by simp only [Around.in1_units];exact o16 hu) ?_)
              exact wpAny_bind (wpAny_pure (wpAny_pure (wpAny_pure (fin r rfl))))
      · intro z s' zz
        obtain ⟨hz,hs',ms',ks',vs',ws',hzip,q1,q2,hl,hlen⟩:=zz
        obtain ⟨z1,z2⟩:=z
        rw [hs']
        clear hs' s'
        simp only at hz
        subst hz
        refine wpAny_pure ?_
        refine fin _ ?_
        rw [<- hlen]
        cases q1 with
        | nil =>
          cases q2 with
          | nil=>exact Option.some.inj hl
          | cons a2 q2=>exact Option.some.inj hl
        | cons a1 q1 =>
          cases q2 with
          | nil=>exact Option.some.inj hl
          | cons a2 q2=>simp at hzip
theorem Agb {p:Int -> Int -> Bool} {r:Bool} {C:Value -> Value -> Bool -> Prop} {h:Heap} (e:Ahy p a b=some r) (x1:VR cx ρ h a v) (x2:VR cx ρ h b w) (k:∀ x y t u,C (.int x t) (.int y u) (p x y)):C v w r:=by
  refine Afw (C:=fun a b r=>VR cx ρ h a v -> VR cx ρ h b w -> C v w r) e (fun x y x1 x2=>?_) x1 x2
  obtain ⟨t,e1⟩:=x1.int_inv
  obtain ⟨u,e2⟩:=x2.int_inv
  exact e1▸e2▸k _ _ _ _
theorem Agc {r:Bool} {C:Value -> Prop} (e:isV a b=some r) (x1:VR cx ρ s.heap a v) (x2:VR cx ρ s.heap b w) (k0:r=(v == .none) -> C .none) (kb:∀ y,plainIs v (.bool y)=true -> r=(v == .bool y) -> C (.bool y)):C w:=by
  cases b with
  | none=>cases x2;exact k0 (Ng x1 e)
  | bool y=>cases x2;exact kb y (Ht x1 e).1 (Ht x1 e).2
  | _=>exact Aa e
theorem Lz (hu:A.units+100 < cLine) {op:COp} (h1:∀ ρ h,P.P ρ h -> VR cx ρ h a v) (h2:∀ ρ h,P.P ρ h -> VR cx ρ h b w) :
    Sim cx A P (compareOp (Ib op) v w) ((M.look (C2 op a b)).bnd fun r=>M.ret (Val.bool r)) (Amb.vr cx):=by
  intro H ρ s R p
  have x1:=h1 _ _ p
  have x2:=h2 _ _ p
  cases e:C2 op a b H with
  | none=>rw [Cu (show M.look (C2 op a b) H=.bad by unfold M.look;rw [e])];trivial
  | some r =>
    rw [Dr (show M.look (C2 op a b) H=.ok r H by unfold M.look;rw [e])]
    refine Aq R fun Q E k=>?_
    have k':∀ tk,Q (.bool r) { s with toks:=tk }:=fun tk=>k _ tk (.bool r)
    cases op with
    | eq=>exact Ai0 R x1 x2 e hu (k' s.toks)
    | ne =>
      refine ex1 (Jb e) fun r' zz=>Ac zz fun e' zr2=>?_;subst zr2
      exact Ai1 R x1 x2 e' hu (k' s.toks)
    | lt=>exact T7 R Eu A a b v w r _ _ x1 x2 e (by show A.units+20+6 < cLine;exact o17 hu) (k' s.toks)
    | le=>exact Agb (C:=fun v w r=>Q (.bool r) s -> wpAny (model cx.prog cx.w) A (compareOp .LtE v w) Q E s) e x1 x2 (fun _ _ _ _=>PyProof.Rows.le_int) (k' s.toks)
    | gt=>exact Agb (C:=fun v w r=>Q (.bool r) s -> wpAny (model cx.prog cx.w) A (compareOp .Gt v w) Q E s) e x1 x2 (fun _ _ _ _=>PyProof.Rows.gt_int) (k' s.toks)
    | is=>exact Agc (C:=fun w=>wpAny (model cx.prog cx.w) A (compareOp .Is v w) Q E s) e x1 x2 (fun h=>is_none (h▸k' s.toks)) fun y q1 h=>wpAny_is_plain q1 (h▸k' s.toks)
    | isNot =>
      refine ex1 (Jb (show Xm true (isV a b)=some r from e)) fun r' zz=>Ac zz fun e' er=>?_
      exact Agc (C:=fun w=>wpAny (model cx.prog cx.w) A (compareOp .IsNot v w) Q E s) e' x1 x2 (fun h=>isNot_none (h▸er▸k' s.toks)) fun y q1 h=>wpAny_isNot_plain q1 (h▸er▸k' s.toks)
    | isin=>exact Ai2 R x1 x2 e hu k'
    | notin =>
      refine ex1 (Jb (show Xm true (inV a b H)=some r from e)) fun r' zz=>Ac zz fun e' zr2=>?_;subst zr2
      exact X4 R x1 x2 e' hu k'
end
end Mine.Internal
namespace Mine.Internal
open PySem PyProof.Rows
theorem b63 {i:Int} {n:Nat} (z:n <= 16777216) (h:i < n):i < 2 ^ 63:=Int.lt_trans (Int.lt_of_lt_of_le h (Int.ofNat_le.mpr z)) (by decide)
theorem l63 {n:Nat} (z:n <= 16777216):(n:Int) < 2 ^ 63:=Int.lt_of_le_of_lt (Int.ofNat_le.mpr z) (by decide)
theorem n63 {i:Int} {n:Nat} (z:n <= 16777216) (h:-(n:Int) <= i):-2 ^ 63 <= i:=Int.le_trans (Int.le_trans (by decide) (Int.neg_le_neg (Int.ofNat_le.mpr z))) h
theorem rs1 {i:Int}:(if 0 < i then i - 0 else 0)=((i.toNat:Nat):Int):=by
  by_cases h:0 < i
  · rw [if_pos h,Int.sub_zero,Int.toNat_of_nonneg (Int.le_of_lt h)]
  · rw [if_neg h,Int.toNat_of_nonpos (Int.not_lt.mp h)];rfl
theorem Cp (slice:Expr) (o i:Value):∃ ops,subscripted slice false o i=operate ops (getItem o i):=by
  have h:∃ ops,operate [o,i] (getItem o i)=operate ops (getItem o i):=⟨_,rfl⟩
  cases slice with
  | Slice a b c d =>
    cases c with
    | none=>exact ⟨_,rfl⟩
    | some _=>exact h
  | _=>exact h
set_option tactic.hygienic true in
theorem Pd {k:Int} {n p:Nat} (h:Bh k n=some p):seqIndex? k n=some p /\ p < n /\ -(n:Int) <= k /\ k < n:=by
  unfold Bh at h
  split at h
  · split at h
    · cases h
      rename_i h0 h1
      exact ⟨seqIndex_of h0 h1,by exact o18 h0 h1,by exact o19 h0,h1⟩
    · exact Aa h
  · split at h
    · cases h
      rename_i h0 h1
      exact ⟨seqIndex_neg (by exact o20 h0) h1,by exact o21 h1 h0,h1,by exact o22 h1 h0⟩
    · exact Aa h
section
variable {cx:Cx} {A:Around} {P:Amb} {a b:Val} {v w:Value} {H:Hp} {ρ:Rho} {s:Shared}
set_option tactic.hygienic true in
theorem Pe {l:Addr} {vs:List Value} {n:Nat} {k:Int} {u:Tok} {p:Nat} {x:Value} {Q:Value -> Shared -> Prop} {E:Value -> Shared -> Prop} (g:s.heap.get? l=some (A8 vs n)) (z:vs.length <= sizeLine) (hp:Bh k vs.length=some p) (hx:vs[p]?=some x) (h:Q x s) :
    wpAny (model cx.prog cx.w) A (getItem (.ref l) (.int k u)) Q E s:=by
  have L:s.heap.IsList l vs.toArray:=⟨_,g,rfl,n,rfl⟩
  rw [sizeLine_eq] at z
  unfold Bh at hp
  split at hp
  · split at hp
    · cases hp
      rename_i h0 h1
      exact wpAny_getItem_list L h0 (b63 z h1) (by simpa using hx) h
    · exact Aa hp
  · split at hp
    · cases hp
      rename_i h0 h1
      exact wpAny_getItem_list_neg L (by exact o20 h0) (by simpa using h1) (n63 z h1) (by simpa using hx) h
    · exact Aa hp
theorem Qu {value slice:Expr} {l:Addr} {vs:List Value} {xs:List Val} {n:Nat} {i:Int} {u:Tok} {r:Val} {Q E:Value -> Shared -> Prop} (g:s.heap.get? l=some (A8 vs n)) (rr:VRs cx ρ s.heap xs vs) (z:xs.length <= sizeLine)
    (e:((Bh i xs.length).bind fun p=>xs[p]?)=some r) (k:∀ x tk,VR cx ρ s.heap r x -> Q x { s with toks:=tk }):wpAny (model cx.prog cx.w) A (subscriptTail value slice (.ref l) (.int i u)) Q E s:=by
  refine Ah fun G kG=>?_
  obtain ⟨ops,hops⟩:=Cp slice (.ref l) (.int i u)
  refine ex1 (Option.bind_eq_some_iff.mp e) fun pl zz=>Ac zz fun e1 e2=>?_
  refine ex1 (rr.get e2) fun x zz=>Ac zz fun ex vx=>?_
  refine kG ?_
  rw [rr.length] at z e1
  exact tail_any (T:="list") (Heap.IsList.typeIs (s:=s) ⟨_,g,rfl,n,rfl⟩) PySem.slot_list_getitem.lookup (Pe g z e1 ex (k _ s.toks vx)) hops
theorem X5 {value slice:Expr} {q:Addr × Addr} {l:Nat} {es:List (Key × Val)} {r:Val} {Q E:Value -> Shared -> Prop} (hu:A.units+100 < cLine) (R:Rel cx H ρ s) (hl:H[l]?=some (.dict es)) (hq:ρ[l]?=some q) (x2:VR cx ρ s.heap b w) (e:((Ec b).bind (Ex es))=some r)
    (k:∀ x tk,VR cx ρ s.heap r x -> Q x { s with toks:=tk }):wpAny (model cx.prog cx.w) A (subscriptTail value slice (.ref q.1) w) Q E s:=by
  refine Ah fun G kG=>?_
  obtain ⟨ops,hops⟩:=Cp slice (.ref q.1) w
  refine ex1 (Option.bind_eq_some_iff.mp e) fun kk zz=>Ac zz fun e1 e2=>?_
  refine ex1 (R.dictAt hl hq) fun xs zz=>By zz fun _ D rr _=>?_
  refine ex1 (Nh x2 e1) fun bb zz=>As zz fun zr1 hk _=>?_;subst zr1
  refine kG ?_
  have at':=rr.atKey kk
  rw [e2] at at'
  cases hp:atKey xs [kk.1,kk.2] with
  | none=>rw [hp] at at';exact at'.elim
  | some pr =>
    rw [hp] at at'
    exact tail_any (T:="dict") D.typeIs PySem.slot_dict_getitem.lookup (wpAny_getItem_heap (knd:=cellKind cx) (tupleKind_room_in1 (by clear at' rr;exact o12 hu)) hk D hp (k _ _ at')) hops
theorem sub_tup {value slice:Expr} {t:Addr} {vs:List Value} {ms:List Val} {n:Nat} {i:Int} {u:Tok} {r:Val} {Q E:Value -> Shared -> Prop} (g:s.heap.get? t=some (T0 vs n)) (rr:VRs cx ρ s.heap ms vs) (z:ms.length <= sizeLine)
    (h0:0 <= i) (e:ms[i.toNat]?=some r) (k:∀ x tk,VR cx ρ s.heap r x -> Q x { s with toks:=tk }):wpAny (model cx.prog cx.w) A (subscriptTail value slice (.ref t) (.int i u)) Q E s:=by
  refine Ah fun G kG=>?_
  obtain ⟨ops,hops⟩:=Cp slice (.ref t) (.int i u)
  refine ex1 (rr.get e) fun x zz=>Ac zz fun ex vx=>?_
  refine kG ?_
  have lt:=(List.getElem?_eq_some_iff.mp ex).1
  rw [rr.length,sizeLine_eq] at z
  refine tail_any (T:="tuple") (Heap.IsTuple.typeIs (s:=s) ⟨_,g,rfl,n,rfl⟩) slot_tuple_getitem.lookup ?_ hops
  exact getItem_tuple (items:=vs.toArray) ⟨_,g,rfl,n,rfl⟩ (Int.le_trans (by decide) h0) (b63 z (by exact o23 h0 lt)) (seqIndex_of h0 (by simp only [List.size_toArray];exact o23 h0 lt)) (by simpa using ex) (k _ s.toks vx)
theorem Acf {value slice:Expr} {x:Str} {t:Tok} {i:Int} {u:Tok} {r:Val} {Q E:Value -> Shared -> Prop} (z:x.length <= sizeLine) (e:((Bh i x.length).bind fun p=>(x.cps[p]?).map fun c=>Val.str ⟨#[c]⟩)=some r)
    (k:∀ x tk,VR cx ρ s.heap r x -> Q x { s with toks:=tk }):wpAny (model cx.prog cx.w) A (subscriptTail value slice (.str x t) (.int i u)) Q E s:=by
  refine Ah fun G kG=>?_
  obtain ⟨ops,hops⟩:=Cp slice (.str x t) (.int i u)
  refine ex1 (Option.bind_eq_some_iff.mp e) fun pl zz=>Ac zz fun e1 e3=>?_
  refine ex1 (Option.map_eq_some_iff.mp e3) fun c zz=>Ac zz fun e2 zr2=>?_;subst zr2
  refine By (Pd e1) fun q1 q2 q3 q4=>?_
  refine kG ?_
  rw [sizeLine_eq] at z
  refine tail_any (T:="str") (typeIs_str s x t) PyProof.Rows.slot_str_getitem.lookup ?_ hops
  refine PyProof.Rows.getItem_str (c:=c) ?_ (by rw [q1];exact e2) (k _ _ (.str _ _ (by show 1 <= sizeLine;decide)))
  simp only [Bool.or_eq_false_iff,decide_eq_false_iff_not]
  omega
theorem VR.tup_inv' {ms:List Val} {h:Heap} (x:VR cx ρ h (.tup ms) v):∃ p vs n,v=.ref p /\ h.get? p=some (T0 vs n) /\ VRs cx ρ h ms vs /\ ms.length <= sizeLine:=by cases x;exact ⟨_,_,_,rfl,by assumption,by assumption,by assumption⟩
theorem VR.script_inv {ns:List Int} {h:Heap} (x:VR cx ρ h (.script ns) v):∃ p vs n,v=.ref p /\ cx.h₀.get? p=some (A8 vs n) /\ VRs cx ρ h (ns.map .int) vs /\ ns.length <= sizeLine:=by cases x;exact ⟨_,_,_,rfl,by assumption,by assumption,by assumption⟩
theorem Pf {ns:List Int} {i:Int} {r:Val} (e:((Bh i ns.length).bind fun p=>(ns[p]?).map Val.int)=some r):((Bh i (ns.map Val.int).length).bind fun p=>(ns.map Val.int)[p]?)=some r:=by
  rw [List.length_map,<- e]
  congr 1
  funext p
  rw [List.getElem?_map]
set_option tactic.hygienic true in
theorem Pg {value slice:Expr} (hu:A.units+100 < cLine) (h1:∀ ρ h,P.P ρ h -> VR cx ρ h a v) (h2:∀ ρ h,P.P ρ h -> VR cx ρ h b w):Sim cx A P (subscriptTail value slice v w) (En a b) (Amb.vr cx):=by
  refine Sim.look fun H ρ s r R p e Q E k=>?_
  have x1:=h1 _ _ p
  have x2:=h2 _ _ p
  clear h1 h2 p
  cases a with
  | loc l =>
    refine ex1 x1.loc_inv fun q zz=>Ac zz fun hq hr0=>?_;refine Eq.symm hr0▸?_
    cases hl:H[l]? with
    | none=>dsimp only at e;rw [hl] at e;exact Aa e
    | some o =>
      dsimp only at e
      rw [hl] at e
      cases o with
      | list xs =>
        cases b with
        | int i =>
          obtain ⟨u,hr1⟩:=x2.int_inv;refine Eq.symm hr1▸?_
          refine ex2 (R.listAt hl hq) fun vs n zz=>By zz fun _ g rr z=>?_
          exact Qu g rr z e k
        | _=>exact Aa e
      | dict es=>exact X5 hu R hl hq x2 e k
      | _=>exact Aa e
  | tup ms =>
    cases b with
    | int i =>
      obtain ⟨u,rfl⟩:=x2.int_inv
      refine ex3 x1.tup_inv' fun t vs n zz=>By zz fun zr3 g rr z=>?_;subst zr3
      have e:(if 0 <= i then ms[i.toNat]? else none)=some r:=e
      split at e
      · rename_i h0;exact sub_tup g rr z h0 e k
      · exact Aa e
    | _=>exact Aa e
  | script ns =>
    cases b with
    | int i =>
      obtain ⟨u,rfl⟩:=x2.int_inv
      refine ex3 x1.script_inv fun t vs n zz=>By zz fun zr3 g rr z=>?_;subst zr3
      exact Qu (R.base _ _ g) rr (by rw [List.length_map];exact z) (Pf e) k
    | _=>exact Aa e
  | str x =>
    cases b with
    | int i =>
      obtain ⟨u,rfl⟩:=x2.int_inv
      refine ex1 x1.str_inv fun t zz=>Ac zz fun hr7 z=>?_;refine Eq.symm hr7▸?_
      exact Acf z e k
    | _=>exact Aa e
  | _=>exact Aa e
end
end Mine.Internal
namespace Mine.Internal
open PySem
section
variable {cx:Cx} {A:Around} {P:Amb} {a b:Val} {v w:Value} {H:Hp} {ρ:Rho} {s:Shared}
noncomputable def Ai3 (s:Shared) (v:Value):Kd -> Prop
  | .none=>v=.none
  | .bool=>∃ b,v=.bool b
  | .int=>∃ i t,v=.int i t
  | .str=>∃ y t,v=.str y t
  | .tuple=>∃ p o,v=.ref p /\ s.heap.get? p=some o /\ o.cls=.type "tuple"
  | .list=>∃ p o,v=.ref p /\ s.heap.get? p=some o /\ o.cls=.type "list"
  | .dict=>∃ p o,v=.ref p /\ s.heap.get? p=some o /\ o.cls=.type "dict"
theorem Ai4 (R:Rel cx H ρ s) (x:VR cx ρ s.heap a v) {k:Kd} (e:Qo H a=some k):Ai3 s v k:=by
  cases x with
  | none=>cases e;rfl
  | bool b=>cases e;exact ⟨_,rfl⟩
  | int i t=>cases e;exact ⟨_,_,rfl⟩
  | str y t z=>cases e;exact ⟨_,_,rfl⟩
  | tup g _ _ _=>cases e;exact ⟨_,_,rfl,g,rfl⟩
  | script g _ _=>cases e;exact ⟨_,_,rfl,R.base _ _ g,rfl⟩
  | @loc l p hp =>
    refine Aim (C:=Ai3 s (.ref p.1)) e (fun xs hl=>?_) fun es hl=>?_
    · refine Ah fun G kG=>?_
      refine ex2 (R.listAt hl hp) fun vs n zz=>As zz fun _ g _=>?_
      refine kG ?_
      exact ⟨_,_,rfl,g,rfl⟩
    · refine Ah fun G kG=>?_
      refine ex1 (R.dictAt hl hp) fun xs zz=>As zz fun _ D _=>?_
      refine ex3 D fun o _ _ zz=>As zz fun g ex _=>?_
      refine kG ?_
      exact ⟨_,_,rfl,g,ex.1⟩
  | rng=>exact Aa e
  | exc=>exact Aa e
noncomputable def X6:Ty -> Value
  | .int=>.type "int"
  | .bool=>.type "bool"
  | .str=>.type "str"
  | .tuple=>.type "tuple"
  | .list=>.type "list"
  | .cls _=>.none
theorem Agd (R:Rel cx H ρ s) (x:VR cx ρ s.heap a v) {k:Kd} (e:Qo H a=some k) {t:Ty} (ht:∀ c,t≠.cls c) {Q:Value -> Shared -> Prop} {E:Value -> Shared -> Prop} (q:∀ tk,Q (.bool (Aat t k)) { s with toks:=tk }) :
    wpAny (model cx.prog cx.w) A (call (.builtin "isinstance") [v,X6 t]) Q E s:=by
  have d:=Ai4 R x e
  cases k <;> cases t
  case none.cls | bool.cls | int.cls | str.cls | tuple.cls | list.cls | dict.cls=>exact absurd rfl (ht _)
  all_goals dsimp only [Ai3] at d
  case none.int=>subst d;exact IsiPair.NoneType_int (q _)
  case none.bool=>subst d;exact IsiPair.NoneType_bool (q _)
  case none.str=>subst d;exact IsiPair.NoneType_str (q _)
  case none.tuple=>subst d;exact IsiPair.NoneType_tuple (q _)
  case none.list=>subst d;exact IsiPair.NoneType_list (q _)
  case bool.int=>obtain ⟨b,rfl⟩:=d;exact IsiPair.bool_int (q _)
  case bool.bool=>obtain ⟨b,rfl⟩:=d;exact IsiPair.bool_bool (q _)
  case bool.str=>obtain ⟨b,rfl⟩:=d;exact IsiPair.bool_str (q _)
  case bool.tuple=>obtain ⟨b,rfl⟩:=d;exact IsiPair.bool_tuple (q _)
  case bool.list=>obtain ⟨b,rfl⟩:=d;exact IsiPair.bool_list (q _)
  case int.int=>refine ex2 d fun i u zr2=>?_;subst zr2;exact IsiPair.int_int (q _)
  case int.bool=>refine ex2 d fun i u zr2=>?_;subst zr2;exact IsiPair.int_bool (q _)
  case int.str=>refine ex2 d fun i u zr2=>?_;subst zr2;exact IsiPair.int_str (q _)
  case int.tuple=>refine ex2 d fun i u zr2=>?_;subst zr2;exact IsiPair.int_tuple (q _)
  case int.list=>refine ex2 d fun i u zr2=>?_;subst zr2;exact IsiPair.int_list (q _)
  case str.int=>refine ex2 d fun i u zr2=>?_;subst zr2;exact IsiPair.str_int (q _)
  case str.bool=>refine ex2 d fun i u zr2=>?_;subst zr2;exact IsiPair.str_bool (q _)
  case str.str=>refine ex2 d fun i u zr2=>?_;subst zr2;exact IsiPair.str_str (q _)
  case str.tuple=>refine ex2 d fun i u zr2=>?_;subst zr2;exact IsiPair.str_tuple (q _)
  case str.list=>refine ex2 d fun i u zr2=>?_;subst zr2;exact IsiPair.str_list (q _)
  case tuple.int=>refine ex2 d fun p o zz=>As zz fun zr2 g c=>?_;subst zr2;exact IsiPair.tuple_int g c (q _)
  case tuple.bool=>refine ex2 d fun p o zz=>As zz fun zr2 g c=>?_;subst zr2;exact IsiPair.tuple_bool g c (q _)
  case tuple.str=>refine ex2 d fun p o zz=>As zz fun zr2 g c=>?_;subst zr2;exact IsiPair.tuple_str g c (q _)
  case tuple.tuple=>refine ex2 d fun p o zz=>As zz fun zr2 g c=>?_;subst zr2;exact IsiPair.tuple_tuple g c (q _)
  case tuple.list=>refine ex2 d fun p o zz=>As zz fun zr2 g c=>?_;subst zr2;exact IsiPair.tuple_list g c (q _)
  case list.int=>refine ex2 d fun p o zz=>As zz fun zr2 g c=>?_;subst zr2;exact IsiPair.list_int g c (q _)
  case list.bool=>refine ex2 d fun p o zz=>As zz fun zr2 g c=>?_;subst zr2;exact IsiPair.list_bool g c (q _)
  case list.str=>refine ex2 d fun p o zz=>As zz fun zr2 g c=>?_;subst zr2;exact IsiPair.list_str g c (q _)
  case list.tuple=>refine ex2 d fun p o zz=>As zz fun zr2 g c=>?_;subst zr2;exact IsiPair.list_tuple g c (q _)
  case list.list=>refine ex2 d fun p o zz=>As zz fun zr2 g c=>?_;subst zr2;exact IsiPair.list_list g c (q _)
  case dict.int=>refine ex2 d fun p o zz=>As zz fun zr2 g c=>?_;subst zr2;exact IsiPair.dict_int g c (q _)
  case dict.bool=>refine ex2 d fun p o zz=>As zz fun zr2 g c=>?_;subst zr2;exact IsiPair.dict_bool g c (q _)
  case dict.str=>refine ex2 d fun p o zz=>As zz fun zr2 g c=>?_;subst zr2;exact IsiPair.dict_str g c (q _)
  case dict.tuple=>refine ex2 d fun p o zz=>As zz fun zr2 g c=>?_;subst zr2;exact IsiPair.dict_tuple g c (q _)
  case dict.list=>refine ex2 d fun p o zz=>As zz fun zr2 g c=>?_;subst zr2;exact IsiPair.dict_list g c (q _)
noncomputable def L5:BF -> Value
  | .len=>.builtin "len"
  | .range=>.type "range"
  | .list=>.type "list"
  | .max2=>.builtin "max"
  | .str=>.type "str"
  | .int=>.type "int"
  | .sortedSet=>.none
theorem X7 (R:Rel cx H ρ s) (x:VR cx ρ s.heap a v) {xs:List Val} (e:B3 a H=some xs) :
    (∃ p vs n,v=.ref p /\ s.heap.get? p=some (A8 vs n) /\ VRs cx ρ s.heap xs vs /\ xs.length <= sizeLine) \/ (∃ p vs n,v=.ref p /\ s.heap.get? p=some (T0 vs n) /\ VRs cx ρ s.heap xs vs /\ xs.length <= sizeLine):=by
  cases x with
  | @tup p vs n ms g no z r=>cases e;exact .inr ⟨_,_,_,rfl,g,r,z⟩
  | @script p vs n ns g z r=>cases e;exact .inl ⟨_,_,_,rfl,R.base _ _ g,r,by rw [List.length_map];exact z⟩
  | @loc l p hp =>
    refine Ah fun G kG=>?_
    refine ex2 (R.listAt (Gg e) hp) fun vs n zz=>By zz fun _ g r z=>?_
    refine kG ?_
    exact .inl ⟨_,_,_,rfl,g,r,z⟩
  | _=>exact Aa e
theorem Acg (h1:∀ ρ h,P.P ρ h -> VR cx ρ h a v):Sim cx A P (call (.builtin "len") [v]) (bfV .len [a]) (Amb.vr cx):=by
  refine Sim.look fun H ρ s r R p e Q E k=>?_
  have x:=h1 _ _ p
  have gen:∀ xs,B3 a H=some xs -> r=.int xs.length -> wpAny (model cx.prog cx.w) A (call (.builtin "len") [v]) Q E s:=by
    intro xs e' hr
    subst hr
    rcases X7 R x e' with ⟨p,vs,n,rfl,g,rr,z⟩ | ⟨p,vs,n,rfl,g,rr,z⟩
    · rw [sizeLine_eq] at z
      rw [rr.length] at z k
      refine PyProof.Rows.len_list (items:=vs.toArray) ⟨_,g,rfl,n,rfl⟩ (l63 z) ?_
      simp only [List.size_toArray]
      exact k _ _ (.int _ _)
    · rw [sizeLine_eq] at z
      rw [rr.length] at z k
      refine PyProof.Rows.len_tuple (items:=vs.toArray) ⟨_,g,rfl,n,rfl⟩ (l63 z) ?_
      simp only [List.size_toArray]
      exact k _ _ (.int _ _)
  cases x with
  | str y t z =>
    simp only [Option.some.injEq] at e
    subst e
    rw [sizeLine_eq] at z
    exact PyProof.Rows.len_str (by omega) (k _ _ (.int _ _))
  | _ =>
    simp only [Option.map_eq_some_iff] at e
    refine ex1 e fun xs zz=>Ac zz fun e1 zr2=>?_;subst zr2
    exact gen xs e1 rfl
theorem T8 (h1:∀ ρ h,P.P ρ h -> VR cx ρ h a v):Sim cx A P (call (.type "range") [v]) (bfV .range [a]) (Amb.vr cx):=by
  intro H ρ s R p
  have x:=h1 _ _ p
  cases x with
  | int i t =>
    show Ay cx A ((if -1073741824 <= i /\ i <= 1073741824 then M.ret (Val.rng i) else M.bad) H) _ _ ρ s
    by_cases q:-1073741824 <= i /\ i <= 1073741824
    · rw [if_pos q]
      have F:=Full.push ρ s.heap { cls:=.type "range",data:=.fields #[.int 0 s.toks,.int i t,.int 1 (s.toks+1)] }
      exact call_range_1 ⟨ρ,F,R.push _ _,.rng (IsRange.new _ _ _ _ _ _ _) (R.fresh_not (Ap _)) (Int.le_trans (by decide) q.1) (Int.lt_of_le_of_lt q.2 (by decide))⟩
    · rw [if_neg q];trivial
  | _=>trivial
theorem X8 (hh:A.handled=none) (h1:∀ ρ h,P.P ρ h -> VR cx ρ h a v) (h2:∀ ρ h,P.P ρ h -> VR cx ρ h b w):Sim cx A P (call (.builtin "max") [v,w]) (bfV .max2 [a,b]) (Amb.vr cx):=by
  intro H ρ s R p
  have x:=h1 _ _ p
  have y:=h2 _ _ p
  cases x with
  | int i t =>
    cases y with
    | int j u =>
      refine max_two_ints hh fun h' tk kp=>?_
      refine ⟨ρ,Full.more kp,R.more kp,?_⟩
      by_cases q:j > i
      · rw [if_pos q,if_pos q];exact .int _ _
      · rw [if_neg q,if_neg q];exact .int _ _
    | _=>trivial
  | _=>trivial
theorem Fy {t:Sem Value} {xs:List Val} (R:Rel cx H ρ s) (z:xs.length <= sizeLine)
    (k:∀ (Q:Value -> Shared -> Prop) (E:Value -> Shared -> Prop),(∀ h' tk vs n,(∀ b o,s.heap.get? b=some o -> h'.get? b=some o) -> h'.get? s.heap.objs.size=some (A8 vs n) -> (∀ ρ',Step ρ s.heap ρ' h' -> VRs cx ρ' h' xs vs) -> Q (.ref s.heap.objs.size) { s with heap:=h',toks:=tk }) -> wpAny (model cx.prog cx.w) A t Q E s) :
    Ay cx A (.ok (.loc H.length) (H++[.list xs])) t (Amb.vr cx) ρ s:=by
  refine k _ _ fun h' tk vs n kp e r=>?_
  obtain ⟨F,R'⟩:=R.alloc (tk:=tk) (o:=.list xs) (p:=(s.heap.objs.size,s.heap.objs.size)) kp ⟨Ap _,Ap _⟩
    (.list (n:=n) e (r _ (Full.alloc kp ⟨Ap _,Ap _⟩).step) z)
  refine ⟨_,F,R',?_⟩
  rw [R.len]
  exact VR.loc (p:=(s.heap.objs.size,s.heap.objs.size)) (by rw [List.getElem?_append_right (Nat.le_refl _)];simp)
theorem X9 {xs:List Val} {vs:List Value} (n:Nat) (hx:xs.length=n) (hv:vs.length=n) (h:∀ i (hi:i < n),∃ t,xs[i]?=some (.int (i:Int)) /\ vs[i]?=some (.int (i:Int) t)) (ρ:Rho) (hp:Heap):VRs cx ρ hp xs vs:=by
  have gen:∀ (xs:List Val) (vs:List Value),xs.length=vs.length -> (∀ i,i < xs.length -> ∃ j t,xs[i]?=some (.int j) /\ vs[i]?=some (.int j t)) -> VRs cx ρ hp xs vs:=by
    intro xs
    induction xs with
    | nil=>intro vs h _;cases vs with
      | nil=>exact .nil
      | cons _ _=>simp at h
    | cons x xs ih =>
      intro vs h k
      cases vs with
      | nil=>simp at h
      | cons v vs =>
        refine ex2 (k 0 (by simp)) fun j t zz=>Ac zz fun e1 e2=>?_
        simp at e1 e2
        subst e1 e2
        refine .cons (.int _ _) (ih vs (by simpa using h) fun i hi=>?_)
        refine ex2 (k (i+1) (by simpa using hi)) fun j' t' zz=>Ac zz fun e1 e2=>?_
        exact ⟨j',t',by simpa using e1,by simpa using e2⟩
  refine gen xs vs (hx.trans hv.symm) fun i hi=>?_
  refine ex1 (h i (by exact o24 hi hx hv)) fun t zz=>Ac zz fun e1 e2=>?_
  exact ⟨_,t,e1,e2⟩
theorem Sc (hh:A.handled=none) (h1:∀ ρ h,P.P ρ h -> VR cx ρ h a v):Sim cx A P (call (.type "list") [v]) (bfV .list [a]) (Amb.vr cx):=by
  intro H ρ s R p
  have x:=h1 _ _ p
  cases x with
  | @rng q i t u w g no z1 z2 =>
    show Ay cx A (if i <= 100000 then M.alloc (.list ((List.range i.toNat).map fun (k:Nat)=>.int (k:Int))) H else .bad) _ _ ρ s
    by_cases hi:i <= 100000
    · rw [if_pos hi]
      refine Fy R (by rw [List.length_map,List.length_range,sizeLine_eq];exact o25 z1 z2 hi) fun Q E k=>?_
      refine call_list_range (n:=i.toNat) hh g (small_one (by decide) (by decide) z1 z2) (by rw [rangeSize_one];exact rs1) (Nat.le_trans (Int.toNat_le.mpr hi:_ <= 100000) (by decide)) fun h' tk acc c kp e it=>?_
      refine k h' tk acc.toList c kp (by simpa [A8] using e) fun ρ' _=>X9 i.toNat (by simp) ?_ (fun j hj=>?_) _ _
      · have:=it.1;simpa using this
      · have lt:j < acc.size:=by rw [it.1];exact hj
        have e0:acc[j]?=some acc[j]:=Array.getElem?_eq_getElem lt
        obtain ⟨t,ht⟩:=it.2 j _ e0
        refine ⟨t,by simp [hj],?_⟩
        rw [ht] at e0
        simpa using e0
    · rw [if_neg hi];trivial
  | @loc l q hq =>
    show Ay cx A (match B3 (.loc l) H with
      | some xs=>M.alloc (.list xs) H
      | none=>.bad) _ _ ρ s
    cases e:B3 (.loc l) H with
    | some xs =>
      refine Ah fun G kG=>?_
      refine ex2 (R.listAt (Gg e) hq) fun vs n zz=>By zz fun _ g r z=>?_
      refine kG ?_
      refine Fy R z fun Q E k=>?_
      refine call_list_seq q.1 (T:="list") (items:=vs.toArray) (.inl rfl) g rfl rfl (fun h' c kp e=>?_) (by simp only [List.size_toArray];rw [<- r.length];exact z)
      exact k h' s.toks vs c kp e fun ρ' st=>r.step st
    | none=>trivial
  | _=>trivial
end
section
variable {cx:Cx} {A:Around} {P:Amb} {a b:Val} {v w:Value} {H:Hp} {ρ:Rho} {s:Shared}
theorem Nj {i:Int} (h:small i=true):i.natAbs.log2 < 1920:=by
  have h1:=of_decide_eq_true (an1 h)
  have h2:=of_decide_eq_true (an2 h)
  by_cases z:i.natAbs=0
  · rw [z];decide
  · have:i.natAbs < 2 ^ 64:=by omega
    exact Nat.lt_trans ((Nat.log2_lt z).mpr this) (by decide)
theorem T9 (h1:∀ ρ h,P.P ρ h -> VR cx ρ h a v):Sim cx A P (call (.type "str") [v]) (bfV .str [a]) (Amb.vr cx):=by
  intro H ρ s R p
  have x:=h1 _ _ p
  cases x with
  | int i t =>
    show Ay cx A ((if small i=true then M.ret (Val.str (Av i)) else M.bad) H) _ _ ρ s
    by_cases q:small i=true
    · rw [if_pos q]
      exact Aq (b:=Val.str (Av i)) R fun Q E k=>PySem.P.str_of_int (Nj q) (k _ _ (.str _ _ (int_text_fits (Nj q))))
    · rw [if_neg q];trivial
  | _=>trivial
theorem Qv {h:Heap}:∀ {xs:List Val} {ys:List Str} {vs:List Value},I6 xs=some ys -> VRs cx ρ h xs vs -> PyProof.Rows.StrsAre vs ys
  | [],ys,vs,e,r=>by cases r;cases e;exact .nil
  | x :: xs,ys,vs,e,r=>by
    cases r with
    | cons a r =>
      cases x with
      | str s =>
        refine ex1 (Option.map_eq_some_iff.mp e) fun zs zz=>Ac zz fun e1 e2=>?_
        subst e2
        cases a
        exact .cons _ _ (Qv e1 r)
      | _=>exact Aa e
theorem Ach {l:Nat} {p:Addr × Addr} {xs:List Val} {ys:List Str} {x:Str} {t:Tok} {Q E:Value -> Shared -> Prop} (R:Rel cx H ρ s) (hl:H[l]?=some (.list xs)) (hp:ρ[l]?=some p) (e:I6 xs=some ys) (z:(ys.map (·.length)).sum+ys.length * x.length <= lid)
    (k:∀ t' tk,Q (.str (Txt.join x ys) t') { s with toks:=tk }):wpAny (model cx.prog cx.w) A (call (.builtin "str.join") [.str x t,.ref p.1]) Q E s:=by
  refine Ah fun G kG=>?_
  refine ex2 (R.listAt hl hp) fun vs n zz=>By zz fun _ g r _=>?_
  refine kG ?_
  exact PyProof.Rows.join_list (items:=vs.toArray) ⟨_,g,rfl,n,rfl⟩ (Qv e r) z k
theorem Sd {x:Str} {t:Tok} {n:Int} {Q E:Value -> Shared -> Prop} (hn:PySem.intText? x=some n) (hl:x.length <= 640) (k:∀ t' tk,Q (.int n t') { s with toks:=tk }):wpAny (model cx.prog cx.w) A (call (.type "int") [.str x t]) Q E s:=PySem.W.KIN.call_text hn hl (k _ _)
theorem Yb {x:Str} (h:Kg x=true) (h1:1 <= x.length) (h2:x.length <= 640):PySem.intText? x=some ((figVal x:Nat):Int):=by
  refine PySem.intText_digits (x:=x) (fun c hc=>?_) (fun e=>?_) (Nat.le_trans h2 (by decide))
  · have:=List.all_eq_true.mp h c hc
    exact ⟨of_decide_eq_true (an1 this),of_decide_eq_true (an2 this)⟩
  · have:x.cps.toList.length=0:=by rw [e];rfl
    have h1:1 <= x.cps.size:=h1
    rw [Array.length_toList] at this
    exact o26 h1 this
theorem Yc (h1:∀ ρ h,P.P ρ h -> VR cx ρ h a v):Sim cx A P (call (.type "int") [v]) (bfV .int [a]) (Amb.vr cx):=by
  intro H ρ s R p
  have x:=h1 _ _ p
  cases x with
  | bool b=>exact Aq R fun Q E k=>call_int_bool (k _ _ (.int _ _))
  | str y t z =>
    show Ay cx A ((if (Kg y && (decide (1 <= y.length) && decide (y.length <= 640)))=true then M.ret (Val.int (figVal y)) else M.bad) H) _ _ ρ s
    by_cases q:(Kg y && (decide (1 <= y.length) && decide (y.length <= 640)))=true
    · rw [if_pos q]
      have q2:=of_decide_eq_true (an2 (an2 q))
      exact Aq (b:=Val.int (figVal y)) R fun Q E k=>Sd (Yb (an1 q) (of_decide_eq_true (an1 (an2 q))) q2) q2 fun t' tk=>k _ _ (.int _ _)
    · rw [if_neg q];trivial
  | _=>trivial
theorem Aci {x:Str} {ys:List Str} (z:(ys.map (·.length)).sum+ys.length * x.length <= lid):(Txt.join x ys).length <= sizeLine:=by
  rw [Ck] at z
  refine Nat.le_trans ?_ z
  show (PySem.Builtin.Str.glued x ys).length <= _
  rw [StrLaws.glued_eq_join]
  exact StrLaws.join_length_le x ys
theorem Acj (b:Val) (v:Value) (ms:List Val) (vs:List Value) (hl:ms.length=1):Sim cx A ((Amb.vr cx b v).and (Amb.vrs cx ms vs)) (call (.builtin "str.join") (v :: vs)) (bmV .join b ms) (Amb.vr cx):=by
  intro H ρ s R ⟨x,y⟩
  obtain ⟨c,rfl⟩:=List.length_eq_one_iff.mp hl
  refine ex1 (VRs.one_inv y) fun w zz=>Ac zz fun zr1 y1=>?_;subst zr1
  cases x with
  | str x t z =>
    show Ay cx A (To x c H) _ _ ρ s
    delta To M.look
    dsimp only
    cases e:(Ks c H).bind fun xs=>(I6 xs).bind fun ys=>if (ys.map (·.length)).sum+ys.length * x.length <= lid then some (Val.str (Txt.join x ys)) else none with
    | none=>trivial
    | some r =>
      refine ex1 (Option.bind_eq_some_iff.mp e) fun xs zz=>Ac zz fun e1 e'=>?_
      refine ex1 (Option.bind_eq_some_iff.mp e') fun ys zz=>Ac zz fun e2 e3=>?_
      refine ex1 (Nb e1) fun l zz=>Ac zz fun zr1 hg=>?_;subst zr1
      by_cases q:(ys.map (·.length)).sum+ys.length * x.length <= lid
      · rw [if_pos q] at e3
        refine ex1 (VR.loc_inv y1) fun p zz=>Ac zz fun hp hr=>?_
        refine Eq.symm hr▸Option.some.inj e3▸?_
        exact Aq (b:=Val.str (Txt.join x ys)) R fun Q E k=>Ach R hg hp e2 q fun t' tk=>k _ _ (.str _ _ (Aci q))
      · rw [if_neg q] at e3;exact Aa e3
  | @loc l p hp =>
    delta bmV;dsimp only
    cases H[l]? with
    | none=>trivial
    | some o=>cases o <;> trivial
  | _=>trivial
end
end Mine.Internal
set_option maxRecDepth 100000
namespace Mine.Internal
open PySem PyProof.Rows PySem.Builtin PySem.Builtin.Str
section
variable {cx:Cx} {A:Around} {s:Shared}
theorem Yd {x y:Str} {t u:Tok} {Q E:Value -> Shared -> Prop} (hy:(y.length == 0)=false) (hsz:x.length+2 <= sizeLine)
    (h:∀ l k,l.map (·.1)=Txt.split x y -> Q (.ref s.heap.objs.size) { s with heap:=s.heap.push { cls:=.type "list",data:=.seq (strValues l).toArray },toks:=k }) :
    wpAny (model cx.prog cx.w) A (call (.builtin "str.split") [.str x t,.str y u]) Q E s:=by
  have hn:(partsBetween x (occurrences x y 0 x.length (x.length+1)) y.length).length <= sizeLine:=by
    have e1:=StrLaws.occ_length_le x y 0 x.length (x.length+1)
    rw [length_partsBetween];exact o27 hsz e1
  by_cases h1:(decide (x.length < y.length) || decide (strKind x < strKind y))=true
  · exact call_meets F.slot_str_split (typeIs_str _ _ _) F.entry_str_split (F.args_str_split_2 _ _) (meets_str_split_cannot_occur x y t u h1) (h [(x,t)] s.toks (if_pos h1).symm)
  · have h1':=eq_false_of_ne_true h1
    by_cases hf:(occurrences x y 0 x.length (x.length+1)).isEmpty=true
    · exact call_meets F.slot_str_split (typeIs_str _ _ _) F.entry_str_split (F.args_str_split_2 _ _) (meets_str_split_not_found x y t u h1' hy hf) (h [(x,t)] s.toks ((if_neg h1).trans (if_pos hf)).symm)
    · refine call_meets F.slot_str_split (typeIs_str _ _ _) F.entry_str_split (F.args_str_split_2 _ _) (meets_str_split_sep x y t u h1' hy (eq_false_of_ne_true hf) (by exact o28 hsz) hn) ?_
      have q:=fun k=>h (numbered s.toks _) k ((numbered_texts _ _).trans ((if_neg h1).trans (if_neg hf)).symm)
      rw [<- strsFrom_eq] at q
      exact q _
theorem Qw {ρ:Rho} {h:Heap}:∀ (l:List (Str × Tok)),(∀ p∈l,p.1.length <= sizeLine) -> VRs cx ρ h ((l.map (·.1)).map .str) (strValues l)
  | [],_=>.nil
  | p :: l,k=>.cons (.str _ _ (k p (.head _))) (Qw l fun q hq=>k q (.tail _ hq))
theorem Ye (b:Val) (v:Value) (ms:List Val) (vs:List Value) (hl:ms.length=1):Sim cx A ((Amb.vr cx b v).and (Amb.vrs cx ms vs)) (call (.builtin "str.split") (v :: vs)) (bmV .split b ms) (Amb.vr cx):=by
  intro H ρ s R ⟨x,y⟩
  obtain ⟨c,rfl⟩:=List.length_eq_one_iff.mp hl
  refine ex1 (VRs.one_inv y) fun w zz=>Ac zz fun zr1 y1=>?_;subst zr1
  cases x with
  | str x t z =>
    show Ay cx A (match Tm c with
      | some y=>if (y.length == 0)=false /\ x.length+2 <= lid then M.alloc (.list ((Txt.split x y).map .str)) H else .bad
      | none=>.bad) _ _ ρ s
    cases e:Tm c with
    | none=>trivial
    | some y' =>
      cases Aau e
      cases y1 with
      | str _ u zy =>
        dsimp only
        by_cases q:(y'.length == 0)=false /\ x.length+2 <= lid
        · rw [if_pos q]
          have q2:=q.2
          rw [Ck] at q2
          refine Fy (xs:=(Txt.split x y').map .str) R ?_ fun Q E k=>Yd q.1 q2 fun l tk e=>?_
          · rw [List.length_map]
            exact Nat.le_trans (split_le x y') q2
          · refine k (s.heap.push { cls:=.type "list",data:=.seq (strValues l).toArray }) tk (strValues l) 0 (fun b o=>?_) ?_ fun ρ' st=>?_
            · exact fun hb=>Heap.get?_push_of_some _ hb
            · exact Heap.get?_push_size _ rfl
            · rw [<- e]
              exact Qw l fun p hp=>Nat.le_trans (part_short (e▸List.mem_map_of_mem hp)) z
        · rw [if_neg q];trivial
  | @loc l p hp =>
    delta bmV;dsimp only
    cases H[l]? with
    | none=>trivial
    | some o=>cases o <;> trivial
  | _=>trivial
end
end Mine.Internal
namespace Mine.Internal
open PySem
theorem C3 {o:Expr} (h:B7 o=true) (n:Str) (env:Env) (t:Sem Value):attributeBase o n env t=t:=by
  have k:t=t:=rfl
  cases o with
  | Call f args kws pos =>
    cases f with
    | Name id c =>
      cases args with
      | nil =>
        cases kws with
        | nil =>
          have:(id != ("super":Str))=true:=h
          exact if_pos (by simp only [this,Bool.true_or])
        | cons _ _=>exact k
      | cons _ _=>exact k
    | _=>exact k
  | _=>exact k
section
variable {cx:Cx} {A:Around} {P:Amb} {env:Env} {H:Hp} {ρ:Rho} {s:Shared}
noncomputable def Bf (env:Env):List Expr -> Prop
  | []=>True
  | e :: es=>starEach (e :: es) env=(false,eval e env) :: starEach es env /\ Bf env es
theorem Al {env:Env}:∀ {xs:List Expr} (pos:Pos),Bf env xs -> backTo pos (starEach xs env)=xs.map fun e=>(false,eval e env)
  | [],pos,_=>rfl
  | e :: es,pos,h=>by
    rw [h.1]
    have:=Al pos h.2
    unfold backTo at this ⊢
    rw [List.map_cons,this]
    simp
theorem Gk {env:Env} {xs:List Expr} {pos:Pos} (h:Bf env xs) (z:xs.length <= 20) :
    ((backTo pos (starEach xs env)).all (fun x=>!x.1) && (backToKw pos (keywordEach [] env)).all (fun x=>x.1.isSome) && decide (xs.length+([]:List Keyword).length+(if ([]:List Keyword).isEmpty then 0 else 1) < 30))=true:=by
  rw [Al pos h]
  simp only [Bool.and_eq_true,List.all_eq_true,List.mem_map,forall_exists_index,and_imp,decide_eq_true_eq]
  refine ⟨⟨fun x e _ hx=>by rw [<- hx];rfl,?_⟩,?_⟩
  · intro x hx;exact absurd (show x∈[] from hx) List.not_mem_nil
  · simp;exact o29 z
theorem Ph {T id:String} {o:Expr} {name:Str} {apos pos:Pos} {args:List Expr} {m:M Val} {g:Val -> M Val} (hs:B7 o=true) (hp:Bf env args) (hz:args.length <= 20) (hline:(apos.endLine == pos.line)=true)
    (pa:PlainAttrs T) (slot:Slot T name id) (hty:typeOf (.builtin id)=pure (.type "method_descriptor"))
    (x:Ay cx A (m H) (eval o env) (Amb.vr cx) ρ s)
    (y:∀ b a H' ρ' s',m H=.ok b H' -> Full ρ s.heap ρ' s'.heap -> Rel cx H' ρ' s' -> VR cx ρ' s'.heap b a ->
      E3 cx (g b H') (fun Q E s₁=>s₁.TypeIs a T /\ (∀ p,a=.ref p -> ∃ ob,s₁.heap.get? p=some ob /\ ob.dict=none) /\ wpAny (model cx.prog cx.w) A (callWith pos (.builtin id) [a] (args.map fun e=>(false,eval e env)) []) Q E s₁) (Amb.vr cx) ρ' s') :
    Ay cx A (m.bnd g H) (eval (.Call (.Attribute o name apos) args [] pos) env) (Amb.vr cx) ρ s :=
  Ay.bindK (K':=fun Q E s=>wpAny (model cx.prog cx.w) A (eval (.Call (.Attribute o name apos) args [] pos) env) Q E s) x y
    (fun a Q E Q' E' s ⟨h1,h2,h3⟩ k1 k2=>⟨h1,h2,wpAny_mono h3 k1 k2⟩)
    (fun Q E h=>wpAny_Call_method (C3 hs _ _ _) (Gk hp hz) hline pa slot hty (by rw [Al pos hp];exact h))
theorem E3.andK {β α:Type} {r:Res β} {p:Prop} (hp:p) {K:(α -> Shared -> Prop) -> (Value -> Shared -> Prop) -> Shared -> Prop} {V:β -> α -> Amb} (x:E3 cx r K V ρ s):E3 cx r (fun Q E s'=>p /\ K Q E s') V ρ s:=x.mono fun _ _ h=>⟨hp,h⟩
theorem Ua (R:Rel cx H ρ s) {l:Nat} {p:Addr × Addr} {xs:List Val} (hl:H[l]?=some (.list xs)) (hp:ρ[l]?=some p):s.TypeIs (.ref p.1) "list" /\ ∀ q,Value.ref p.1=.ref q -> ∃ ob,s.heap.get? q=some ob /\ ob.dict=none:=by
  refine Ah fun G kG=>?_
  refine ex2 (R.listAt hl hp) fun vs n zz=>As zz fun _ g _=>?_
  refine kG ?_
  exact ⟨⟨_,g,rfl⟩,fun q e=>by cases e;exact ⟨_,g,rfl⟩⟩
theorem Jf (vs:List Value) (n:Nat) (f:Array Value -> Array Value):∃ n',Obj.mapSeq f (A8 vs n)=A8 (f vs.toArray).toList n':=by
  unfold A8 Obj.mapSeq
  exact ⟨_,rfl⟩
theorem Jg {l:Nat} {p:Addr × Addr} {b:Val} {v:Value} {ys:List Val} {vs:List Value} {n:Nat} (R:Rel cx H ρ s) (hl:ρ[l]?=some p) (hpp:p.2=p.1) (g:s.heap.get? p.1=some (A8 vs n)) (f:Array Value -> Array Value)
    (r:VRs cx ρ s.heap ys (f vs.toArray).toList) (z:ys.length <= sizeLine) (hv:∀ h,Full ρ s.heap ρ h -> VR cx ρ h b v) :
    ∃ ρ',Full ρ s.heap ρ' (s.heap.update p.1 (Obj.mapSeq f)) /\ Rel cx (H.set l (.list ys)) ρ' { s with heap:=s.heap.update p.1 (Obj.mapSeq f) } /\ (Amb.vr cx b v).P ρ' (s.heap.update p.1 (Obj.mapSeq f)):=by
  obtain ⟨n',e⟩:=Jf vs n f
  have g':(s.heap.update p.1 (Obj.mapSeq f)).get? p.1=some (A8 (f vs.toArray).toList n'):=by
    rw [Heap.get?_update_self _ g (by skip;rfl),e]
  have hs:Heap.SameBut p.1 s.heap (s.heap.update p.1 (Obj.mapSeq f)):=Heap.SameBut.update ..
  have own:Aw ρ p.1:=⟨p,List.mem_of_getElem? hl,.inl rfl⟩
  have F:=Full.own own g' hs
  obtain ⟨F',R'⟩:=R.set (tk:=s.toks) (o:=.list ys) hl (fun b ob eb n1 _=>by rw [hs.2 b n1];exact eb) (SameBut.live hs g') (by
    obtain ⟨p1,p2⟩:=p
    dsimp only at hpp
    refine Eq.symm hpp▸?_
    exact .list g' (r.step F.step) z)
  exact ⟨ρ,F',R',hv _ F'⟩
theorem Ky {vs:List Value} {xs:List Val} (r:VRs cx ρ s.heap xs vs) (z:xs.length <= sizeLine):vs.toArray.size <= sizeLine:=by simp only [List.size_toArray];rw [<- r.length];exact z
theorem E4 {Φ:Funs} {Γ:Env'} {es:MEs} {xs:List Expr} {f:Value} {γ δ:Type} {g:List Val -> M δ} {W:δ -> γ -> Amb} {K:List Value -> (γ -> Shared -> Prop) -> (Value -> Shared -> Prop) -> Shared -> Prop}
    (hn:xs=[] -> es=.nil) (R:Rel cx H ρ s) (x:Ay cx A (evalEs cx.T Φ es Γ H) (spliced (xs.map fun e=>(false,eval e env))) (Amb.vrs cx) ρ s)
    (y:∀ ms vs H' ρ' s',evalEs cx.T Φ es Γ H=.ok ms H' -> Full ρ s.heap ρ' s'.heap -> Rel cx H' ρ' s' -> VRs cx ρ' s'.heap ms vs -> E3 cx (g ms H') (K vs) W ρ' s') (mk:∀ vs,Sa (K vs)) :
    E3 cx ((evalEs cx.T Φ es Γ).bnd g H) (fun Q E s=>wpAny (model cx.prog cx.w) A (evalArgs f true (xs.map fun e=>(false,eval e env)) []) (fun a s₁=>a.kw=[] /\ K a.pos Q E s₁) E s) W ρ s:=by
  cases xs with
  | nil =>
    obtain rfl:=hn rfl
    have e:evalEs cx.T Φ .nil Γ H=.ok [] H:=rfl
    refine (y [] [] H ρ s e (Full.refl _ _) R .nil).mono fun Q E h=>?_
    exact evalArgs_none ⟨rfl,h⟩
  | cons e0 es0 =>
    refine Ay.bindK (K:=K) x y mk fun Q E h=>?_
    exact Calls.evalArgs_plain (wpAny_mono h (fun vs s' h'=>⟨rfl,h'⟩) fun _ _ q=>q)
theorem Cq (args:List Expr):(args.map fun e=>(false,eval e env)).any (·.1)=false:=by
  induction args with
  | nil=>rfl
  | cons e es ih=>rw [List.map_cons,List.any_cons,ih];rfl
theorem Ih {α:Type} (t:Sem α):Sa fun Q E s=>wpAny (model cx.prog cx.w) A t Q E s:=fun _ _ _ _ _ h k1 k2=>wpAny_mono h k1 k2
theorem Se {Φ:Funs} {Γ:Env'} {es:MEs} {xs:List Expr} {pos:Pos} {id:String} {first:List Value} {g:List Val -> M Val} (hn:xs=[] -> es=.nil) (R:Rel cx H ρ s)
    (x:Ay cx A (evalEs cx.T Φ es Γ H) (spliced (xs.map fun e=>(false,eval e env))) (Amb.vrs cx) ρ s)
    (y:∀ ms vs H' ρ' s',evalEs cx.T Φ es Γ H=.ok ms H' -> Full ρ s.heap ρ' s'.heap -> Rel cx H' ρ' s' -> VRs cx ρ' s'.heap ms vs -> Ay cx A (g ms H') (call (.builtin id) (first++vs)) (Amb.vr cx) ρ' s') :
    Ay cx A ((evalEs cx.T Φ es Γ).bnd g H) (callWith pos (.builtin id) first (xs.map fun e=>(false,eval e env)) []) (Amb.vr cx) ρ s :=
  (E4 (f:=.builtin id) (K:=fun vs Q E s=>wpAny (model cx.prog cx.w) A (call (.builtin id) (first++vs)) Q E s) hn R x y (fun _=>Ih _)).mono fun Q E h =>
    Calls.callWith_builtin (Cq _) (wpAny_mono h (fun a s₁ h₁=>by rw [h₁.1];exact h₁.2) fun _ _ q=>q)
noncomputable def Atg:BM -> String
  | .append=>"list.append"
  | .dpop=>"dict.pop"
  | .clear=>"list.clear"
  | .join=>"str.join"
  | .split=>"str.split"
noncomputable def Xo (m:BM):String × String:=(Qp m,Atg m)
theorem Yg (m:BM):PlainAttrs (Xo m).1:=by
  cases m <;> first | exact F.plainAttrs_list | exact F.plainAttrs_dict | exact F.plainAttrs_str
theorem Ack (m:BM):Slot (Xo m).1 (Gh m).1 (Xo m).2:=by
  cases m
  · exact F.slot_list_append
  · exact F.slot_dict_pop
  · exact F.slot_list_clear
  · exact F.slot_str_join
  · exact F.slot_str_split
set_option maxRecDepth 100000 in
theorem Acl (m:BM):typeOf (.builtin (Xo m).2)=pure (.type "method_descriptor"):=by
  cases m <;> kernel_rfl
theorem Acm {m:BM} {b:Val} {v:Value} (R:Rel cx H ρ s) (x:VR cx ρ s.heap b v) (h:Ez m b H=some ()):s.TypeIs v (Xo m).1 /\ ∀ q,v=.ref q -> ∃ ob,s.heap.get? q=some ob /\ ob.dict=none:=by
  have h:=(Lx h).1
  show s.TypeIs v (Qp m) /\ _
  generalize Qp m=T at h
  cases x with
  | str y t z=>cases h;exact ⟨typeIs_str _ _ _,fun q e=>nomatch e⟩
  | @loc l p hp =>
    refine Ab5 (C:=fun T=>s.TypeIs (.ref p.1) T /\ ∀ q,Value.ref p.1=.ref q -> ∃ ob,s.heap.get? q=some ob /\ ob.dict=none) h (fun xs hl=>Ua R hl hp) fun es hl=>?_
    refine Ah fun G kG=>?_
    refine ex1 (R.dictAt hl hp) fun xs zz=>As zz fun _ D _=>?_
    refine ex3 D fun o _ _ zz=>As zz fun g ex _=>?_
    refine kG ?_
    exact ⟨⟨_,g,ex.1⟩,fun q e=>by cases e;exact ⟨_,g,ex.2.1⟩⟩
  | _=>exact Aa h
theorem Age {Φ:Funs} {Γ:Env'} {a:ME} {m:BM} {es:MEs} {o:Expr} {xs:List Expr} {apos pos:Pos} (hs:B7 o=true) (hp:Bf env xs) (hz:xs.length <= 20) (hn:xs=[] -> es=.nil) (hline:(apos.endLine == pos.line)=true)
    (x:Sim cx A P (eval o env) (Ai cx.T Φ a Γ) (Amb.vr cx)) (y:Sim cx A P (spliced (xs.map fun e=>(false,eval e env))) (evalEs cx.T Φ es Γ) (Amb.vrs cx))
    (k:∀ b v ms vs,ms.length=xs.length -> Sim cx A ((Amb.vr cx b v).and (Amb.vrs cx ms vs)) (call (.builtin (Xo m).2) (v :: vs)) (bmV m b ms) (Amb.vr cx)) (hlen:∀ H ms H',evalEs cx.T Φ es Γ H=.ok ms H' -> ms.length=xs.length) :
    Sim cx A P (eval (.Call (.Attribute o (Gh m).1 apos) xs [] pos) env) (Ai cx.T Φ (.bm a m es) Γ) (Amb.vr cx):=by
  intro H ρ s R p
  refine Ph (T:=(Xo m).1) (id:=(Xo m).2) hs hp hz hline (Yg m) (Ack m) (Acl m) (x H ρ s R p) fun b v H1 ρ1 s1 _ F1 R1 vr=>?_
  refine E3.lookK fun _ fit=>?_
  obtain ⟨t1,t2⟩:=Acm R1 vr fit
  refine E3.mono (K:=fun Q E s=>wpAny (model cx.prog cx.w) A (callWith pos (.builtin (Xo m).2) [v] (xs.map fun e=>(false,eval e env)) []) Q E s) ?_ fun Q E h=>⟨t1,t2,h⟩
  refine Se hn R1 (y H1 ρ1 s1 R1 (P.st _ _ _ _ p F1)) fun ms vs H2 ρ2 s2 e2 F2 R2 vrs=>?_
  exact k b v ms vs (hlen _ _ _ e2) H2 ρ2 s2 R2 ⟨vr.step F2.step,vrs⟩
end
section
variable {cx:Cx} {A:Around} {H:Hp} {ρ:Rho} {s:Shared}
theorem VRs.single {h:Heap} {ms:List Val} {vs:List Value} (y:VRs cx ρ h ms vs) (hl:ms.length=1):∃ m u,ms=[m] /\ vs=[u] /\ VR cx ρ h m u:=by
  cases y with
  | nil=>cases hl
  | cons y0 y =>
    cases y with
    | nil=>exact ⟨_,_,rfl,rfl,y0⟩
    | cons _ _=>cases hl
set_option tactic.hygienic true in
theorem Ub (b:Val) (v:Value) (ms:List Val) (vs:List Value) (hl:ms.length=1):Sim cx A ((Amb.vr cx b v).and (Amb.vrs cx ms vs)) (call (.builtin "list.append") (v :: vs)) (bmV .append b ms) (Amb.vr cx):=by
  intro H ρ s R ⟨x,y⟩
  refine ex2 (VRs.single y hl) fun m u zz=>As zz fun zr2 zr3 y0=>?_;subst zr2;subst zr3
  cases x with
  | @loc l p hp =>
    show Ay cx A (match H[l]? with
      | some (.list xs)=>if xs.length < lid then Res.ok Val.none (H.set l (.list (xs++[m]))) else .bad
      | some (.dict es)=>.bad
      | _=>.bad) _ _ ρ s
    split
    · rename_i xs e
      refine Ah fun G kG=>?_
      refine ex2 (R.listAt e hp) fun ws n zz=>By zz fun hpp g r z=>?_
      refine kG ?_
      by_cases q:xs.length < lid
      · rw [if_pos q]
        rw [Ck] at q
        refine call_meets F.slot_list_append ⟨_,g,rfl⟩ F.entry_list_append (F.args_list_append_2 _ _) (list_append p.1 ws.toArray n u (Ky r z)) ⟨g,?_⟩
        exact Jg R hp hpp g (fun x=>x.push u) (by simpa using r.append (.one y0)) (by rw [List.length_append];exact q) fun _ _=>.none
      · rw [if_neg q];trivial
    · trivial
    · trivial
  | _=>trivial
set_option tactic.hygienic true in
theorem Yh (b:Val) (v:Value) (ms:List Val) (vs:List Value) (hl:ms.length=0):Sim cx A ((Amb.vr cx b v).and (Amb.vrs cx ms vs)) (call (.builtin "list.clear") (v :: vs)) (bmV .clear b ms) (Amb.vr cx):=by
  intro H ρ s R ⟨x,y⟩
  match ms,hl,y with
  | [],_,.nil =>
    cases x with
    | @loc l p hp =>
      show Ay cx A (match H[l]? with
        | some (.list xs)=>Res.ok Val.none (H.set l (.list []))
        | some (.dict es)=>.bad
        | _=>.bad) _ _ ρ s
      split
      · rename_i xs e
        refine Ah fun G kG=>?_
        refine ex2 (R.listAt e hp) fun ws n zz=>By zz fun hpp g r z=>?_
        refine kG ?_
        refine call_meets F.slot_list_clear ⟨_,g,rfl⟩ F.entry_list_clear (F.args_list_clear_1 _) (AutoSeq1.list_clear_list_0 p.1 ws.toArray n (Ky r z)) ⟨g,?_⟩
        exact Jg R hp hpp g (fun _=>#[]) (by simpa using VRs.nil) (by simp) fun _ _=>.none
      · trivial
      · trivial
    | _=>trivial
end
section
variable {prog:Program} {w:World} {K:Type} [DecidableEq K] {knd:HeapKind prog w K} {A:Around} {E:Value -> Shared -> Prop} {s:Shared}
theorem Nk {α β:Type} (f:α -> β) (l:List α) (j:Nat):(l.map f).eraseIdx j=(l.eraseIdx j).map f:=by
  induction l generalizing j with
  | nil=>rfl
  | cons a l ih =>
    cases j with
    | zero=>rfl
    | succ j=>exact congrArg (f a :: ·) (ih j)
theorem Nl {d a:Addr} {xs:List (K × Addr × Value)} {k:K} {p:Addr × Value} {Q:Option DictEntry -> Shared -> Prop} (hu:knd.room A) (hkey:knd.is s.heap k a) (hm:s.heap.DictOfH knd d xs) (hp:atKey xs k=some p) (hz:xs.length <= sizeLine)
    (hQ:∀ j h',xs[j]?=some (k,p) -> h'.DictOfH knd d (xs.eraseIdx j) -> Heap.SameBut d s.heap h' -> Q (some (entryOfKey knd (k,p))) { s with heap:=h',toks:=s.toks+knd.draws k }):wpAny (model prog w) A (Builtin.Dict.takeOut d (.ref a)) Q E s:=by
  refine Ah fun G kG=>?_
  refine ex3 hm fun o es ep zz=>Kp zz fun ho hc hd he his hn=>?_
  refine kG ?_
  have hes:es.size <= sizeLine:=by rw [size_of_entries he];exact hz
  unfold Builtin.Dict.takeOut
  try with_reducible refine wpAny_holding ?_
  refine wpAny_bind (knd.pyHash hu hkey (wpAny_bind (wpAny_dictFind_heap (s:={ s with toks:=s.toks+knd.draws k }) hu hkey ho hd he his hn ?_ ?_)))
  · intro hno
    rw [atKey_none_of_get hno] at hp;exact Aa hp
  · intro j q hj
    have e:=atKey_of_get hn hj
    rw [hp] at e;cases e
    refine wpAny_bind (wpAny_dictEntries (s:={ s with toks:=s.toks+knd.draws k }) ho hd ?_)
    rw [entry_at he j,hj]
    refine wpAny_bind (wpAny_updateDictKeys (hz:=hes) (s:={ s with toks:=s.toks+knd.draws k }) ho hd (wpAny_pure (hQ j _ hj ⟨_,_,ep+1,Heap.get?_update_self _ ho (Obj.isFreed_of_dict (Obj.data_mapDictKeys hd _)),
      hc.mapDictKeys _,Obj.data_mapDictKeys hd _,?_,fun x hx=>knd.keeps (his x (List.mem_of_mem_eraseIdx hx)) ho hd (Heap.SameBut.update ..),?_⟩ (Heap.SameBut.update ..))))
    · obtain ⟨l⟩:=es
      simp only [List.eraseIdxIfInBounds_toArray]
      rw [show l=xs.map (entryOfKey knd) from he,Nk]
    · rw [<- Nk]
      exact hn.sublist (List.eraseIdx_sublist _ _)
theorem L7 {d a:Addr} {xs:List (K × Addr × Value)} {k:K} {p:Addr × Value} {Q:Value -> Shared -> Prop} (hu:knd.room A.in1) (hkey:knd.is s.heap k a) (hm:s.heap.DictOfH knd d xs) (hp:atKey xs k=some p) (hz:xs.length <= sizeLine)
    (hQ:∀ j h',xs[j]?=some (k,p) -> h'.DictOfH knd d (xs.eraseIdx j) -> Heap.SameBut d s.heap h' -> Q p.2 { s with heap:=h',toks:=s.toks+knd.draws k }):wpAny (model prog w) A (call (.builtin "dict.pop") [.ref d,.ref a]) Q E s:=by
  refine wpAny_call_entry F.slot_dict_pop hm.typeIs F.entry_dict_pop ?_ (F.args_dict_pop_2 _ _)
  have hm':=hm
  refine Ah fun G kG=>?_
  refine ex3 hm fun o es ep zz=>Kp zz fun ho hc hd he _ _=>?_
  refine kG ?_
  unfold Builtin.«dict.pop»
  refine wpAny_bind ?_
  unfold Builtin.Dict.keyAndDefault
  refine wpAny_bind (wpAny_notOrdered_dict hm'.typeIs ?_)
  refine wpAny_pure ?_
  have ne:es.isEmpty=false:=by
    rw [Array.isEmpty_eq_false_iff_exists_mem]
    refine ex1 (Option.map_eq_some_iff.mp hp) fun x zz=>Ac zz fun hx _=>?_
    exact ⟨_,Array.mem_toList_iff.mp (by rw [he];exact List.mem_map.mpr ⟨x,List.mem_of_find?_eq_some hx,rfl⟩)⟩
  have hpart:(keyPart (.ref a)).isSome=false:=rfl
  simp only [hpart,Bool.false_eq_true,if_false]
  refine wpAny_bind (wpAny_dictEntries ho hd (wpAny_bind (wpAny_pure ?_)))
  simp only [ne,Bool.false_eq_true,if_false]
  refine wpAny_bind (Nl hu hkey hm' hp hz fun j h' hj hm2 hs=>?_)
  simp only [Option.isNone_some,Bool.false_eq_true,if_false]
  exact wpAny_bind (wpAny_letGo (wpAny_pure ⟨p.2,rfl,hQ j h' hj hm2 hs⟩))
end
section
variable {prog:Program} {w:World} {K:Type} [DecidableEq K] {knd:HeapKind prog w K}
theorem Pi {h:Heap} {xs:List (K × Addr × Value)} {k:K} {a:Addr} {v:Value} (ks:∀ x∈xs,knd.is h x.1 x.2.1) (hk:knd.is h k a):∀ x∈storedH xs k a v,knd.is h x.1 x.2.1:=by
  intro x hx
  unfold storedH at hx
  by_cases q:(atKey xs k).isSome=true
  · rw [if_pos q] at hx
    refine ex1 (List.mem_map.mp hx) fun y zz=>Ac zz fun hy hr0=>?_;refine hr0▸?_
    unfold putAt
    by_cases e:y.1=k
    · rw [if_pos e];exact ks y hy
    · rw [if_neg e];exact ks y hy
  · rw [if_neg q] at hx
    rcases List.mem_append.mp hx with hx | hx
    · exact ks x hx
    · rw [List.mem_singleton.mp hx];exact hk
end
section
variable {cx:Cx} {A:Around} {P:Amb} {H:Hp} {ρ:Rho} {s:Shared} {h:Heap}
theorem DRs.length {es:List (Key × Val)} {xs:List (List Int × Addr × Value)} (r:DRs cx ρ h es xs):xs.length=es.length:=by
  induction r with
  | nil=>rfl
  | cons _ _ _ ih=>exact congrArg (·+1) ih
theorem Agf {k k':Key} (q:¬ k'=k):¬ ([k'.1,k'.2]=[k.1,k.2]):=fun e=>q (by
  simp only [List.cons.injEq,and_true] at e
  exact Prod.ext e.1 e.2)
theorem DRs.put {es:List (Key × Val)} {xs:List (List Int × Addr × Value)} {k:Key} {a:Addr} {m:Val} {v:Value} (r:DRs cx ρ h es xs) (hn:(xs.map (·.1)).Nodup) (x:VR cx ρ h m v) (no:VR cx ρ h (Ad k) (.ref a)):DRs cx ρ h (Hq es k m) (storedH xs [k.1,k.2] a v):=by
  induction r with
  | nil=>exact .cons x no .nil
  | @cons k' v' b y es xs a' n r ih =>
    rw [List.map_cons,List.nodup_cons] at hn
    by_cases q:k'=k
    · refine q▸?_
      have e1:storedH (([k'.1,k'.2],b,y) :: xs) [k'.1,k'.2] a v=([k'.1,k'.2],b,v) :: xs:=by
        unfold storedH
        rw [if_pos (by simp [PySem.atKey]),List.map_cons]
        congr 1
        · simp [putAt]
        · refine (List.map_congr_left fun z hz=>?_).trans (List.map_id _)
          unfold putAt
          rw [if_neg fun e=>hn.1 (List.mem_map.mpr ⟨z,hz,e⟩)];rfl
      rw [e1]
      show DRs cx ρ h (if k'=k' then _ else _) _
      rw [if_pos rfl]
      exact .cons x n r
    · have q':=Agf q
      have e2:PySem.atKey (([k'.1,k'.2],b,y) :: xs) [k.1,k.2]=PySem.atKey xs [k.1,k.2]:=by
        unfold PySem.atKey
        rw [List.find?_cons]
        simp only [decide_eq_false q']
      have e1:storedH (([k'.1,k'.2],b,y) :: xs) [k.1,k.2] a v=([k'.1,k'.2],b,y) :: storedH xs [k.1,k.2] a v:=by
        unfold storedH
        rw [e2]
        split
        · rw [List.map_cons];congr 1
          unfold putAt;rw [if_neg q']
        · rfl
      rw [e1]
      show DRs cx ρ h (if k'=k then _ else _) _
      rw [if_neg q]
      exact .cons a' n (ih hn.2)
theorem DRs.del {es:List (Key × Val)} {xs:List (List Int × Addr × Value)} {k:Key} {j:Nat} {p:Addr × Value} (r:DRs cx ρ h es xs) (hn:(xs.map (·.1)).Nodup) (hj:xs[j]?=some ([k.1,k.2],p)):DRs cx ρ h (M4 es k) (xs.eraseIdx j):=by
  induction r generalizing j with
  | nil=>exact Aa hj
  | @cons k' v' b y es xs a' n r ih =>
    rw [List.map_cons,List.nodup_cons] at hn
    show DRs cx ρ h (if k'=k then _ else _) _
    cases j with
    | zero =>
      have e:=Option.some.inj hj
      have:k'=k:=by
        have e:=congrArg Prod.fst e
        simp only [List.cons.injEq,and_true] at e
        exact Prod.ext e.1 e.2
      rw [if_pos this];exact r
    | succ j =>
      have hj':xs[j]?=some ([k.1,k.2],p):=hj
      have:¬ k'=k:=fun e=>hn.1 (e▸List.mem_map.mpr ⟨_,List.mem_of_getElem? hj',rfl⟩)
      rw [if_neg this]
      exact .cons a' n (ih hn.2 hj')
theorem DRs.sub {es:List (Key × Val)} {xs:List (List Int × Addr × Value)} {k:Key} {m:Val} (r:DRs cx ρ s.heap es xs) (h:Ex es k=some m):∃ p,PySem.atKey xs [k.1,k.2]=some p /\ VR cx ρ s.heap m p.2:=by
  have a:=r.atKey k
  rw [h] at a
  cases e:PySem.atKey xs [k.1,k.2] with
  | none=>rw [e] at a;exact a.elim
  | some p=>rw [e] at a;exact ⟨p,rfl,a⟩
theorem Pj (es:List (Key × Val)) (k:Key) (v:Val):(Hq es k v).length <= es.length+1:=by
  induction es with
  | nil=>exact Nat.le_refl _
  | cons e es ih =>
    show (if e.1=k then _ else _:List (Key × Val)).length <= _
    by_cases q:e.1=k
    · rw [if_pos q];exact Nat.le_succ _
    · rw [if_neg q];exact Nat.succ_le_succ ih
theorem Pk (es:List (Key × Val)) (k:Key):(M4 es k).length <= es.length:=by
  induction es with
  | nil=>exact Nat.le_refl _
  | cons e es ih =>
    show (if e.1=k then _ else _:List (Key × Val)).length <= _
    by_cases q:e.1=k
    · rw [if_pos q];exact Nat.le_succ _
    · rw [if_neg q];exact Nat.succ_le_succ ih
theorem Qx {l:Nat} {p:Addr × Addr} {es:List (Key × Val)} {xs:List (List Int × Addr × Value)} {h':Heap} {tk:Nat} (R:Rel cx H ρ s) (hl:ρ[l]?=some p) (hpp:p.2=p.1) (hm:h'.DictOfH (cellKind cx) p.1 xs) (hs:Heap.SameBut p.1 s.heap h')
    (hk:∀ x∈xs,(cellKind cx).is s.heap x.1 x.2.1) (r:DRs cx ρ s.heap es xs) (z:es.length <= sizeLine):Full ρ s.heap ρ h' /\ Rel cx (H.set l (.dict es)) ρ { s with heap:=h',toks:=tk }:=by
  have hm':=hm
  refine Ah fun G kG=>?_
  refine ex3 hm fun o _ _ zz=>Ac zz fun e' _=>?_
  refine kG ?_
  have F:=Full.own ⟨p,List.mem_of_getElem? hl,.inl rfl⟩ e' hs
  refine R.set hl (fun b ob eb n1 _=>by rw [hs.2 b n1];exact eb) (SameBut.live hs e') ?_
  obtain ⟨p1,p2⟩:=p
  dsimp only at hpp
  refine Eq.symm hpp▸?_
  exact .dict hm' (r.step F.step) z
theorem Yi {env:Env} {Φ:Funs} {Γ:Env'} {pos:Pos}:Sim cx A P (eval (.Dict [] [] pos) env) (Ai cx.T Φ .dict Γ) (Amb.vr cx):=by
  intro H ρ s R p
  refine wpAny_Dict_empty ?_
  have kp:∀ b o,s.heap.get? b=some o -> (s.heap.push { cls:=.type "dict",data:=.dict #[] }).get? b=some o:=fun b o e=>Heap.get?_push_of_some _ e
  obtain ⟨F,R'⟩:=R.alloc (tk:=s.toks) (o:=.dict []) (p:=(s.heap.objs.size,s.heap.objs.size)) kp ⟨Ap _,Ap _⟩
    (.dict (Heap.DictOfH.new _) .nil (Nat.zero_le _))
  refine ⟨_,F,R',?_⟩
  rw [R.len]
  exact VR.loc (p:=(s.heap.objs.size,s.heap.objs.size)) (by rw [List.getElem?_append_right (Nat.le_refl _)];simp)
set_option tactic.hygienic true in
theorem Acn (hu:A.units+100 < cLine) (b:Val) (v:Value) (ms:List Val) (vs:List Value) (hl:ms.length=1):Sim cx A ((Amb.vr cx b v).and (Amb.vrs cx ms vs)) (call (.builtin "dict.pop") (v :: vs)) (bmV .dpop b ms) (Amb.vr cx):=by
  intro H ρ s R ⟨x,y⟩
  refine ex2 (VRs.single y hl) fun m u zz=>As zz fun hm hv y0=>?_
  subst hm
  subst hv
  cases x with
  | @loc l p hp =>
    show Ay cx A (match H[l]? with
      | some (.list xs)=>.bad
      | some (.dict es)=>(match Ec m with
        | some k=>(match Ex es k with
          | some v=>Res.ok v (H.set l (.dict (M4 es k)))
          | none=>.bad)
        | none=>.bad)
      | _=>.bad) _ _ ρ s
    cases e:H[l]? with
    | none=>trivial
    | some o =>
      cases o with
      | dict es =>
        show Ay cx A (match Ec m with
          | some k=>(match Ex es k with
            | some v=>Res.ok v (H.set l (.dict (M4 es k)))
            | none=>.bad)
          | none=>.bad) _ _ ρ s
        cases ek:Ec m with
        | none=>trivial
        | some k =>
          show Ay cx A (match Ex es k with
            | some v=>Res.ok v (H.set l (.dict (M4 es k)))
            | none=>.bad) _ _ ρ s
          cases eg:Ex es k with
          | none=>trivial
          | some r =>
            refine Ah fun G kG=>?_
            refine ex1 (R.dictAt e hp) fun xs zz=>By zz fun hpp D rr z=>?_
            refine ex1 (Nh y0 ek) fun bb zz=>As zz fun hr hk no=>?_
            refine ex1 (rr.sub eg) fun q zz=>Ac zz fun hq vr=>?_
            have D':=D
            refine ex3 D' fun _ _ _ zz=>Kp zz fun _ _ _ _ ks nd=>?_
            refine kG ?_
            refine Eq.symm hr▸?_
            refine L7 (knd:=cellKind cx) (tupleKind_room_in1 (by exact o12 hu)) hk D hq (by rw [rr.length];exact z) fun j h' hj hm hs=>?_
            obtain ⟨F,R'⟩:=Qx (tk:=s.toks+(cellKind cx).draws [k.1,k.2]) R hp hpp hm hs (fun x hx=>ks x (List.mem_of_mem_eraseIdx hx)) (rr.del nd hj) (Nat.le_trans (Pk es k) z)
            exact ⟨ρ,F,R',vr.step F.step⟩
      | _=>trivial
  | _=>trivial
end
section
variable {N:Names} {sc:Scope} {ns:List (Option Str)} {a b c:ME} {e:Expr} {es:MEs} {op op1 op2:COp}
theorem Yj (h:ck N sc ns .none e=true):∃ k pos,e=.Constant .none k pos:=by
  obtain ⟨t,h⟩:=Ab h
  exact ⟨_,_,t.2.trans (congrArg (fun c=>Expr.Constant c t.1.2.1 t.1.2.2) (Aaw h))⟩
theorem Yk {v:Bool} (h:ck N sc ns (.bool v) e=true):∃ k pos,e=.Constant (.bool v) k pos:=by
  obtain ⟨t,h⟩:=Ab h
  obtain ⟨u,h⟩:=Ab h
  exact ⟨_,_,t.2.trans (congrArg (fun c=>Expr.Constant c t.1.2.1 t.1.2.2) (u.2.trans (congrArg Const.bool (eq_of_beq h).symm)))⟩
theorem Aco {v:Int} (h:ck N sc ns (.int v) e=true):∃ k pos,e=.Constant (.int v) k pos:=by
  obtain ⟨t,h⟩:=Ab h
  obtain ⟨u,h⟩:=Ab h
  exact ⟨_,_,t.2.trans (congrArg (fun c=>Expr.Constant c t.1.2.1 t.1.2.2) (u.2.trans (congrArg Const.int (of_decide_eq_true h).symm)))⟩
theorem Acp {v:Str} (h:ck N sc ns (.str v) e=true):∃ k pos,e=.Constant (.str v) k pos /\ v.length <= 1000:=by
  obtain ⟨t,h⟩:=Ab h
  obtain ⟨u,h⟩:=Ab h
  exact ⟨_,_,t.2.trans (congrArg (fun c=>Expr.Constant c t.1.2.1 t.1.2.2) (u.2.trans (congrArg Const.str (of_decide_eq_true (an1 h)).symm))),of_decide_eq_true (an2 h)⟩
theorem Yl {k:Nat} (h:ck N sc ns (.glob k) e=true):∃ x pos,e=.Name x pos /\ Bd sc x=true /\ Do N.globs x k=true:=by
  obtain ⟨t,h⟩:=Ab h
  exact ⟨_,_,t.2,an1 h,an2 h⟩
theorem Acq {k:Nat} (h:ck N sc ns (.var k) e=true):∃ x pos,e=.Name x pos /\ X0 sc ns k x=true:=by
  obtain ⟨t,h⟩:=Ab h
  exact ⟨_,_,t.2,h⟩
theorem Acr {op:BOp} (h:ck N sc ns (.bin op a b) e=true):∃ l o r pos,e=.BinOp l o r pos /\ Ah0 op o=true /\ ck N sc ns a l=true /\ ck N sc ns b r=true:=by
  obtain ⟨t,h⟩:=Ab h
  exact ⟨_,_,_,_,t.2,an1 (an1 h),an2 (an1 h),an2 h⟩
theorem Acs (h:ck N sc ns (.neg a) e=true):∃ x pos,e=.UnaryOp .USub x pos /\ ck N sc ns a x=true:=by
  obtain ⟨t,h⟩:=Ab h
  exact ⟨_,_,t.2.trans (congrArg (fun o=>Expr.UnaryOp o t.1.2.1 t.1.2.2) (Aaw (an1 h))),an2 h⟩
theorem Act (h:ck N sc ns (.not a) e=true):∃ x pos,e=.UnaryOp .Not x pos /\ ck N sc ns a x=true:=by
  obtain ⟨t,h⟩:=Ab h
  exact ⟨_,_,t.2.trans (congrArg (fun o=>Expr.UnaryOp o t.1.2.1 t.1.2.2) (Aaw (an1 h))),an2 h⟩
theorem Acu (h:ck N sc ns (.and a b) e=true):∃ x y rest pos,e=.BoolOp .And (x :: y :: rest) pos /\ ck N sc ns a x=true /\ ((rest=[] /\ ck N sc ns b y=true) \/ ck N sc ns b (.BoolOp .And (y :: rest) pos)=true):=by
  refine Ah fun G kG=>?_
  obtain ⟨t,h⟩:=Ab h
  obtain ⟨⟨⟨x,y,rest⟩,z2⟩,h2⟩:=Ab (an2 h)
  refine kG ?_
  refine ⟨x,y,rest,t.1.2.2,t.2.trans ((congrArg (fun o=>Expr.BoolOp o t.1.2.1 t.1.2.2) (Aaw (an1 h))).trans (congrArg (fun o=>Expr.BoolOp .And o t.1.2.2) z2)),an1 h2,?_⟩
  cases rest with
  | nil=>exact .inl ⟨rfl,an2 h2⟩
  | cons _ _=>exact .inr (an2 h2)
theorem Agg (h:ck N sc ns (.or a b) e=true):∃ x y rest pos,e=.BoolOp .Or (x :: y :: rest) pos /\ ck N sc ns a x=true /\ ((rest=[] /\ ck N sc ns b y=true) \/ ck N sc ns b (.BoolOp .Or (y :: rest) pos)=true):=by
  obtain ⟨t,h⟩:=Ab h
  obtain ⟨⟨⟨x,y,rest⟩,z2⟩,h2⟩:=Ab (an2 h)
  refine ⟨x,y,rest,t.1.2.2,t.2.trans ((congrArg (fun o=>Expr.BoolOp o t.1.2.1 t.1.2.2) (Aaw (an1 h))).trans (congrArg (fun o=>Expr.BoolOp .Or o t.1.2.2) z2)),an1 h2,?_⟩
  cases rest with
  | nil=>exact .inl ⟨rfl,an2 h2⟩
  | cons _ _=>exact .inr (an2 h2)
theorem Acv (h:ck N sc ns (.cmp op a b) e=true):∃ l r pos,e=.Compare l [Ib op] [r] pos /\ ck N sc ns a l=true /\ ck N sc ns b r=true /\ Ds r=true:=by
  obtain ⟨t,h⟩:=Ab h
  obtain ⟨u,h2⟩:=Ab (an2 h)
  exact ⟨_,_,_,t.2.trans ((congrArg (fun o=>Expr.Compare t.1.1 o t.1.2.2.1 t.1.2.2.2) (of_decide_eq_true (an1 h))).trans (congrArg (fun o=>Expr.Compare t.1.1 _ o t.1.2.2.2) u.2)),an1 (an1 h2),an2 (an1 h2),an2 h2⟩
theorem Ym (h:ck N sc ns (.cmp2 op1 op2 a b c) e=true):∃ l m r pos,e=.Compare l [Ib op1,Ib op2] [m,r] pos /\ ck N sc ns a l=true /\ ck N sc ns b m=true /\ ck N sc ns c r=true /\ Ds r=true:=by
  obtain ⟨t,h⟩:=Ab h
  obtain ⟨u,h2⟩:=Ab (an2 h)
  exact ⟨_,_,_,_,t.2.trans ((congrArg (fun o=>Expr.Compare t.1.1 o t.1.2.2.1 t.1.2.2.2) (of_decide_eq_true (an1 h))).trans (congrArg (fun o=>Expr.Compare t.1.1 _ o t.1.2.2.2) u.2)),an1 (an1 (an1 h2)),an2 (an1 (an1 h2)),an2 (an1 h2),an2 h2⟩
theorem Acw (h:ck N sc ns (.sub a b) e=true):∃ v s pos,e=.Subscript v s pos /\ ck N sc ns a v=true /\ ck N sc ns b s=true:=by
  obtain ⟨t,h⟩:=Ab h
  exact ⟨_,_,_,t.2,an1 h,an2 h⟩
theorem Uc {lo hi:MEo} (h:ck N sc ns (.slice a lo hi) e=true):∃ v l u p pos,e=.Subscript v (.Slice l u none p) pos /\ ck N sc ns a v=true /\ ckO N sc ns lo l=true /\ ckO N sc ns hi u=true:=by
  obtain ⟨t,h⟩:=Ab h
  obtain ⟨u,h⟩:=Ab h
  exact ⟨_,_,_,_,_,t.2.trans (congrArg (fun o=>Expr.Subscript t.1.1 o t.1.2.2) (u.2.trans (congrArg (fun o=>Expr.Slice u.1.1 u.1.2.1 o u.1.2.2.2) (Aaw (an2 h))))),an1 (an1 (an1 h)),an2 (an1 (an1 h)),an2 (an1 h)⟩
theorem Acx (h:ck N sc ns (.tup es) e=true):∃ xs k pos,e=.Tuple xs k pos /\ ckEs N sc ns es xs=true /\ xs.length <= 1000:=by
  obtain ⟨t,h⟩:=Ab h
  exact ⟨_,_,_,t.2,an1 h,of_decide_eq_true (an2 h)⟩
theorem Yn (h:ck N sc ns (.list es) e=true):∃ xs pos,e=.List xs pos /\ ckEs N sc ns es xs=true /\ xs.length <= 1000:=by
  obtain ⟨t,h⟩:=Ab h
  exact ⟨_,_,t.2,an1 h,of_decide_eq_true (an2 h)⟩
theorem Yo (h:ck N sc ns .dict e=true):∃ pos,e=.Dict [] [] pos:=by
  obtain ⟨t,h⟩:=Ab h
  exact ⟨t.1.2.2,t.2.trans (by rw [List.isEmpty_iff.mp (an1 h),List.isEmpty_iff.mp (an2 h)])⟩
theorem Yp {n:Nat} (h:ck N sc ns (.attr a n) e=true):∃ v y pos,e=.Attribute v y pos /\ ck N sc ns a v=true /\ Do N.attrs y n=true /\ B7 v=true:=by
  obtain ⟨t,h⟩:=Ab h
  exact ⟨_,_,_,t.2,an1 (an1 h),an2 (an1 h),an2 h⟩
theorem Yq {f:Nat} (h:ck N sc ns (.call f es) e=true):∃ x np xs pos,e=.Call (.Name x np) xs [] pos /\ Bd sc x=true /\ Do N.funs x f=true /\ ckEs N sc ns es xs=true /\ xs.length <= 20:=by
  obtain ⟨t,h⟩:=Ab h
  exact ⟨_,_,_,_,t.2,an1 (an1 (an1 h)),an2 (an1 (an1 h)),an2 (an1 h),of_decide_eq_true (an2 h)⟩
theorem Acy {f:Nat} (h:ck N sc ns (.new f es) e=true):∃ x np xs pos,e=.Call (.Name x np) xs [] pos /\ Bd sc x=true /\ Do N.clss x f=true /\ ckEs N sc ns es xs=true /\ xs.length <= 20:=by
  obtain ⟨t,h⟩:=Ab h
  exact ⟨_,_,_,_,t.2,an1 (an1 (an1 h)),an2 (an1 (an1 h)),an2 (an1 h),of_decide_eq_true (an2 h)⟩
theorem Ud {m:Nat} (h:ck N sc ns (.umeth a m es) e=true):∃ o y apos xs pos,e=.Call (.Attribute o y apos) xs [] pos /\ ck N sc ns a o=true /\ Do N.meths y m=true /\ ckEs N sc ns es xs=true /\ xs.length <= 20 /\ B7 o=true /\ (apos.endLine == pos.line)=true:=by
  obtain ⟨t,h⟩:=Ab h
  exact ⟨_,_,_,_,_,t.2.1,an1 (an1 (an1 (an1 h))),an2 (an1 (an1 (an1 h))),an2 (an1 (an1 h)),of_decide_eq_true (an2 (an1 h)),an2 h,t.2.2⟩
theorem Agh {f:BF} (h:ck N sc ns (.bf f es) e=true):∃ x np xs pos,e=.Call (.Name x np) xs [] pos /\ Bd sc x=true /\ (Fs f).1=x /\ (Fs f).2=xs.length /\ ckEs N sc ns es xs=true:=by
  obtain ⟨t,h⟩:=Ab h
  exact ⟨_,_,_,_,t.2,an1 (an1 (an1 h)),of_decide_eq_true (an2 (an1 (an1 h))),of_decide_eq_true (an2 (an1 h)),an2 h⟩
theorem Agi {m:BM} (h:ck N sc ns (.bm a m es) e=true):∃ o y apos xs pos,e=.Call (.Attribute o y apos) xs [] pos /\ ck N sc ns a o=true /\ (Gh m).1=y /\ (Gh m).2=xs.length /\ ckEs N sc ns es xs=true /\ B7 o=true /\ (apos.endLine == pos.line)=true:=by
  obtain ⟨t,h⟩:=Ab h
  exact ⟨_,_,_,_,_,t.2.1,an1 (an1 (an1 (an1 h))),of_decide_eq_true (an2 (an1 (an1 (an1 h)))),of_decide_eq_true (an2 (an1 (an1 h))),an2 (an1 h),an2 h,t.2.2⟩
theorem Sf {t:Ty} (h:ck N sc ns (.isinst a t) e=true):∃ f np x y yp pos,e=.Call (.Name f np) [x,.Name y yp] [] pos /\ Bd sc f=true /\ f=("isinstance":Str) /\ Bd sc y=true /\ ck N sc ns a x=true /\ Ak3 N y t=true:=by
  refine Ah fun G kG=>?_
  obtain ⟨p,h⟩:=Ab h
  obtain ⟨u,h⟩:=Ab h
  obtain ⟨w,h⟩:=Ab h
  refine kG ?_
  exact ⟨_,_,_,_,_,_,p.2.trans (congrArg (fun xs=>Expr.Call (.Name p.1.1 p.1.2.1) xs [] p.1.2.2.2) (u.2.trans (congrArg (fun y=>[u.1.1,y]) w.2))),an1 (an1 (an1 (an1 h))),of_decide_eq_true (an2 (an1 (an1 (an1 h)))),an2 (an1 (an1 h)),an2 (an1 h),an2 h⟩
theorem Yr (h:ck N sc ns (.sset a) e=true):∃ f np g gp x ip pos,e=.Call (.Name f np) [.Call (.Name g gp) [x] [] ip] [] pos /\ Bd sc f=true /\ f=("sorted":Str) /\ Bd sc g=true /\ g=("set":Str) /\ ck N sc ns a x=true:=by
  refine Ah fun G kG=>?_
  obtain ⟨p,h⟩:=Ab h
  obtain ⟨u,h⟩:=Ab h
  obtain ⟨w,h⟩:=Ab h
  obtain ⟨z,h⟩:=Ab h
  refine kG ?_
  exact ⟨_,_,_,_,_,_,_,p.2.trans (congrArg (fun xs=>Expr.Call (.Name p.1.1 p.1.2.1) xs [] p.1.2.2.2) (u.2.trans (congrArg (fun y=>[y]) (w.2.trans (congrArg (fun xs=>Expr.Call (.Name w.1.1 w.1.2.1) xs [] w.1.2.2.2) z.2))))),an1 (an1 (an1 (an1 h))),of_decide_eq_true (an2 (an1 (an1 (an1 h)))),an2 (an1 (an1 h)),of_decide_eq_true (an2 (an1 h)),an2 h⟩
theorem Qy {elt it:ME} {cond:MEo} (h:ck N sc ns (.comp elt it cond) e=true):∃ el x px i ifs csc pos,e=.ListComp el [⟨.Name x px,i,ifs,0⟩] csc pos /\ ck N sc ns it i=true /\ Ds i=true /\ Jd sc csc x=true /\
    ck N csc (Dp csc ns++[some x]) elt el=true /\ ckC N csc (Dp csc ns++[some x]) cond ifs=true:=by
  obtain ⟨t,h⟩:=Ab h
  obtain ⟨u,h⟩:=Ab h
  exact ⟨_,_,_,_,_,_,_,t.2.trans (congrArg (fun g=>Expr.ListComp t.1.1 g t.1.2.2.1 t.1.2.2.2) u.2),an1 (an1 (an1 (an1 h))),an2 (an1 (an1 (an1 h))),an2 (an1 (an1 h)),an2 (an1 h),an2 h⟩
noncomputable def Ue (comp:Bool):Expr -> Bool
  | .Constant ..=>true
  | .Name ..=>true
  | .BinOp ..=>true
  | .UnaryOp ..=>true
  | .BoolOp ..=>true
  | .Compare ..=>true
  | .Subscript ..=>true
  | .Tuple ..=>true
  | .List ..=>true
  | .Dict ..=>true
  | .Attribute ..=>true
  | .Call ..=>true
  | .ListComp ..=>comp
  | _=>false
noncomputable def Aaz:ME -> Bool
  | .comp ..=>true
  | _=>false
theorem A5 {e e':Expr} {c:Bool} (h:e=e') (k:Ue c e'=true):Ue c e=true:=h▸k
theorem Uf {m:ME} (h:ck N sc ns m e=true):Ue (Aaz m) e=true:=by
  cases m with
  | none=>obtain ⟨t,_⟩:=Ab h;exact A5 t.2 rfl
  | bool v=>obtain ⟨t,_⟩:=Ab h;exact A5 t.2 rfl
  | int v=>obtain ⟨t,_⟩:=Ab h;exact A5 t.2 rfl
  | str v=>obtain ⟨t,_⟩:=Ab h;exact A5 t.2 rfl
  | glob k=>obtain ⟨t,_⟩:=Ab h;exact A5 t.2 rfl
  | var k=>obtain ⟨t,_⟩:=Ab h;exact A5 t.2 rfl
  | bin op a b=>obtain ⟨t,_⟩:=Ab h;exact A5 t.2 rfl
  | neg a=>obtain ⟨t,_⟩:=Ab h;exact A5 t.2 rfl
  | not a=>obtain ⟨t,_⟩:=Ab h;exact A5 t.2 rfl
  | and a b=>obtain ⟨t,_⟩:=Ab h;exact A5 t.2 rfl
  | or a b=>obtain ⟨t,_⟩:=Ab h;exact A5 t.2 rfl
  | cmp op a b=>obtain ⟨t,_⟩:=Ab h;exact A5 t.2 rfl
  | cmp2 op1 op2 a b c=>obtain ⟨t,_⟩:=Ab h;exact A5 t.2 rfl
  | sub a i=>obtain ⟨t,_⟩:=Ab h;exact A5 t.2 rfl
  | slice a lo hi=>obtain ⟨t,_⟩:=Ab h;exact A5 t.2 rfl
  | tup es=>obtain ⟨t,_⟩:=Ab h;exact A5 t.2 rfl
  | list es=>obtain ⟨t,_⟩:=Ab h;exact A5 t.2 rfl
  | dict=>obtain ⟨t,_⟩:=Ab h;exact A5 t.2 rfl
  | attr a n=>obtain ⟨t,_⟩:=Ab h;exact A5 t.2 rfl
  | call f es=>obtain ⟨t,_⟩:=Ab h;exact A5 t.2 rfl
  | new f es=>obtain ⟨t,_⟩:=Ab h;exact A5 t.2 rfl
  | umeth a m es=>obtain ⟨t,_⟩:=Ab h;exact A5 t.2.1 rfl
  | bf f es=>obtain ⟨t,_⟩:=Ab h;exact A5 t.2 rfl
  | bm a m es=>obtain ⟨t,_⟩:=Ab h;exact A5 t.2.1 rfl
  | isinst a t=>obtain ⟨t,_⟩:=Ab h;exact A5 t.2 rfl
  | sset a=>obtain ⟨t,_⟩:=Ab h;exact A5 t.2 rfl
  | comp elt it cond=>obtain ⟨t,_⟩:=Ab h;exact A5 t.2 rfl
end
noncomputable def Hd:Expr -> Bool
  | .Starred ..=>false
  | _=>true
theorem Bb {e:Expr} {es:List Expr} {env:Env} (h:Hd e=true):starEach (e :: es) env=(false,eval e env) :: starEach es env:=by
  cases e <;> first | rfl | exact Cd h
theorem B0 {N:Names} {sc:Scope} {ns:List (Option Str)} {m:ME} {e:Expr} (h:ck N sc ns m e=true):Hd e=true:=by
  have z:=Uf h
  cases e <;> first | rfl | exact Cd z
theorem Cm {N:Names} {sc:Scope} {ns:List (Option Str)} {env:Env}:∀ {ms:MEs} {xs:List Expr},ckEs N sc ns ms xs=true -> Bf env xs
  | .nil,[],_=>trivial
  | .nil,_ :: _,h=>by cases (show false=true from h)
  | .cons _ _,[],h=>by cases (show false=true from h)
  | .cons m ms,x :: xs,h=>by
    have h:=And.intro (an1 h) (an2 h)
    exact ⟨Bb (B0 h.1),Cm h.2⟩
theorem Fg {N:Names} {sc:Scope} {ns:List (Option Str)} {ms:MEs} (h:ckEs N sc ns ms []=true):ms=.nil:=by
  cases ms with
  | nil=>rfl
  | cons _ _=>cases (show false=true from h)
theorem Cr {T:Tab} {Φ:Funs} {Γ:Env'} {N:Names} {sc:Scope} {ns:List (Option Str)}:∀ {ms:MEs} {xs:List Expr} {H H':Hp} {vs:List Val},ckEs N sc ns ms xs=true -> evalEs T Φ ms Γ H=.ok vs H' -> vs.length=xs.length
  | .nil,[],H,H',vs,_,e=>by cases (show Res.ok [] H=.ok vs H' from e);rfl
  | .nil,_ :: _,_,_,_,h,_=>by cases (show false=true from h)
  | .cons _ _,[],_,_,_,h,_=>by cases (show false=true from h)
  | .cons m ms,x :: xs,H,H',vs,h,e=>by
    have h:=And.intro (an1 h) (an2 h)
    rw [Xv] at e
    cases e1:Ai T Φ m Γ H with
    | bad=>rw [Cu e1] at e;exact Df e
    | exc c H1=>rw [Eb e1] at e;exact Kq e
    | ok v H1 =>
      rw [Dr e1] at e
      cases e2:evalEs T Φ ms Γ H1 with
      | bad=>rw [Cu e2] at e;exact Df e
      | exc c H2=>rw [Eb e2] at e;exact Kq e
      | ok vs' H2 =>
        rw [Dr e2] at e
        cases e
        rw [List.length_cons,List.length_cons,Cr h.2 e2]
section
variable {cx:Cx} {N:Names} {A:Around} {P:Amb} {env:Env} {Φ:Funs} {Γ:Env'}
theorem Acz:Sim cx A P (spliced (([]:List Expr).map fun e=>(false,eval e env))) (evalEs cx.T Φ .nil Γ) (Amb.vrs cx):=by
  intro H ρ s R p
  exact wpAny_pure ⟨ρ,Full.refl _ _,R,.nil⟩
theorem Ys {m:ME} {ms:MEs} {e:Expr} {es:List Expr} (x:Sim cx A P (eval e env) (Ai cx.T Φ m Γ) (Amb.vr cx)) (y:Sim cx A P (spliced (es.map fun e=>(false,eval e env))) (evalEs cx.T Φ ms Γ) (Amb.vrs cx)) :
    Sim cx A P (spliced ((e :: es).map fun e=>(false,eval e env))) (evalEs cx.T Φ (.cons m ms) Γ) (Amb.vrs cx):=by
  intro H ρ s R p
  refine Ay.bindK (K':=fun Q E s=>wpAny (model cx.prog cx.w) A (spliced ((e :: es).map fun e=>(false,eval e env))) Q E s) (K:=fun v Q E s=>wpAny (model cx.prog cx.w) A (spliced (es.map fun e=>(false,eval e env))) (fun vs s'=>Q (v :: vs) s') E s) (x H ρ s R p) ?_ ?_ ?_
  · intro b v H1 ρ1 s1 _ F1 R1 vr
    refine Ay.bindK (K':=fun Q E s=>wpAny (model cx.prog cx.w) A (spliced (es.map fun e=>(false,eval e env))) (fun vs s'=>Q (v :: vs) s') E s) (K:=fun vs Q E s=>Q (v :: vs) s) (y H1 ρ1 s1 R1 (P.st _ _ _ _ p F1)) ?_ ?_ ?_
    · intro bs vs H2 ρ2 s2 _ F2 R2 vrs
      exact ⟨ρ2,Full.refl _ _,R2,.cons (vr.step F2.step) vrs⟩
    · exact fun vs Q E Q' E' s h k _=>k _ _ h
    · exact fun Q E h=>h
  · exact fun v Q E Q' E' s h k1 k2=>wpAny_mono h (fun _ _=>k1 _ _) k2
  · exact fun Q E h=>Calls.spliced_cons h
theorem Ac0 {ms:MEs} {es:List Expr} {k:Nat} {pos:Pos} (hp:Bf env es) (hz:es.length <= 1000) (hlen:∀ H vs H',evalEs cx.T Φ ms Γ H=.ok vs H' -> vs.length=es.length) (y:Sim cx A P (spliced (es.map fun e=>(false,eval e env))) (evalEs cx.T Φ ms Γ) (Amb.vrs cx)) :
    Sim cx A P (eval (.Tuple es k pos) env) (Ai cx.T Φ (.tup ms) Γ) (Amb.vr cx):=by
  intro H ρ s R p
  refine Ay.bindK (K':=fun Q E s=>wpAny (model cx.prog cx.w) A (eval (.Tuple es k pos) env) Q E s) (K:=fun vs Q E s₁=>vs.length <= sizeLine /\ Q (.ref s₁.heap.objs.size) { s₁ with heap:=s₁.heap.push (T0 vs 0) }) (y H ρ s R p) ?_ ?_ ?_
  · intro bs vs H1 ρ1 s1 e1 F1 R1 vrs
    have z:bs.length <= sizeLine:=by rw [hlen _ _ _ e1,sizeLine_eq];exact o30 hz
    have F:=Full.push ρ1 s1.heap (T0 vs 0)
    exact ⟨by rw [<- vrs.length];exact z,ρ1,F,R1.push _ _,.tup (Heap.get?_push_size _ rfl) (R1.fresh_not (Ap _)) z (vrs.step F.step)⟩
  · exact fun vs Q E Q' E' s h k1 _=>⟨h.1,k1 _ _ h.2⟩
  · exact fun Q E h=>wpAny_Tuple (by rw [Al pos hp];exact h)
theorem Yt {ms:MEs} {es:List Expr} {pos:Pos} (hp:Bf env es) (hz:es.length <= 1000) (hlen:∀ H vs H',evalEs cx.T Φ ms Γ H=.ok vs H' -> vs.length=es.length) (y:Sim cx A P (spliced (es.map fun e=>(false,eval e env))) (evalEs cx.T Φ ms Γ) (Amb.vrs cx)) :
    Sim cx A P (eval (.List es pos) env) (Ai cx.T Φ (.list ms) Γ) (Amb.vr cx):=by
  intro H ρ s R p
  refine Ay.bindK (K':=fun Q E s=>wpAny (model cx.prog cx.w) A (eval (.List es pos) env) Q E s) (K:=fun vs Q E s₁=>vs.length <= sizeLine /\ Q (.ref s₁.heap.objs.size) { s₁ with heap:=s₁.heap.push (A8 vs 0) }) (y H ρ s R p) ?_ ?_ ?_
  · intro bs vs H1 ρ1 s1 e1 F1 R1 vrs
    have z:bs.length <= sizeLine:=by rw [hlen _ _ _ e1,sizeLine_eq];exact o30 hz
    refine E3.andK (by rw [<- vrs.length];exact z) ?_
    exact R1.newList s1.toks vrs z
  · exact fun vs Q E Q' E' s h k1 _=>⟨h.1,k1 _ _ h.2⟩
  · exact fun Q E h=>wpAny_List (by rw [Al pos hp];exact h)
end
structure FullS (env:Env) (ρ:Rho) (h:Heap) (ρ':Rho) (h':Heap):Prop where
  grow:Jc ρ h ρ'
  keep:∀ b o,h.get? b=some o -> ¬ Aw ρ b -> b≠env.locals -> (∀ y,env.cells.lookup y≠some b) -> ∃ o',h'.get? b=some o' /\ Eo o o'
  live:Hr h h'
theorem Full.toS {env:Env} {ρ ρ':Rho} {h h':Heap} (x:Full ρ h ρ' h'):FullS env ρ h ρ' h':=⟨x.grow,fun b o e n _ _=>x.keep b o e n,x.live⟩
theorem FullS.refl (env:Env) (ρ:Rho) (h:Heap):FullS env ρ h ρ h:=(Full.refl ρ h).toS
theorem FullS.trans {env:Env} {ρ ρ' ρ'':Rho} {h h' h'':Heap} (x:FullS env ρ h ρ' h') (y:FullS env ρ' h' ρ'' h''):FullS env ρ h ρ'' h'' :=
  ⟨x.grow.trans y.grow x.live,fun b o e n n1 n2=>by
      refine ex1 (x.keep b o e n n1 n2) fun o' zz=>Ac zz fun e' u=>?_
      refine ex1 (y.keep b o' e' (x.grow.not n e) n1 n2) fun o'' zz=>Ac zz fun e'' u'=>?_
      exact ⟨o'',e'',u.trans u'⟩,x.live.trans y.live⟩
section
variable {cx:Cx} {N:Names} {A:Around} {env:Env} {sc:Scope} {ns:List (Option Str)}
theorem EnvSt.notLoc {ρ:Rho} {h:Heap} (x:EnvSt cx env sc ρ h) {b:Addr} {o:Obj} (e:h.get? b=some o) (n:∀ es k,o.data≠.dict es k):b≠env.locals:=fun q=>by
  refine ex1 x.loc fun m zz=>ex3 zz fun ob es ep zz=>As zz fun e' d _=>?_
  rw [<- q,e] at e';cases e'
  exact n _ _ d
theorem EnvSt.notCell {ρ:Rho} {h:Heap} (x:EnvSt cx env sc ρ h) {b:Addr} {o:Obj} (e:h.get? b=some o) (n:∀ v,o.data≠.cell v) (y:Str):env.cells.lookup y≠some b:=fun q=>by
  obtain ⟨⟨v,ob,e',d⟩,_⟩:=x.cells y b q
  rw [e] at e';cases e'
  exact n _ d
theorem FullS.step {ρ ρ':Rho} {h h':Heap} (x:EnvSt cx env sc ρ h) (F:FullS env ρ h ρ' h'):Step ρ h ρ' h':=by
  refine ⟨let ⟨e,h1,_⟩:=F.grow;⟨e,h1⟩,fun b o e f n=>⟨?_,F.grow.not n e⟩,fun b o C e c n=>?_⟩
  · obtain ⟨o',e',u⟩:=F.keep b o e n (x.notLoc e f.notDict) (x.notCell e fun v q=>by rcases f with ⟨_,_,_,f⟩ | ⟨_,_,f⟩ <;> rw [q] at f <;> cases f)
    rw [e',u.exact f.notDict]
  · obtain ⟨o',e',u⟩:=F.keep b o e n (x.notLoc e c.notDict) (x.notCell e fun v q=>by obtain ⟨_,⟨_,f⟩,_⟩:=c;rw [q] at f;cases f)
    rw [u.exact c.notDict] at e'
    exact ⟨o,e',c,F.grow.not n e⟩
noncomputable def Bx (cx:Cx) (A:Around) (env:Env) (sc:Scope) (ns:List (Option Str)) (r:ResS) (t:Sem Flow) (ρ:Rho) (s:Shared):Prop :=
  match r with
  | .bad=>True
  | .next Γ' H'=>wpAny (model cx.prog cx.w) A t (fun f s'=>f=.next /\ ∃ ρ',FullS env ρ s.heap ρ' s'.heap /\ Rel cx H' ρ' s' /\ EnvOk cx env sc ns Γ' ρ' s'.heap) (fun _ _=>False) s
  | .ret v H'=>wpAny (model cx.prog cx.w) A t (fun f s'=>∃ v' ρ',f=.ret v' /\ FullS env ρ s.heap ρ' s'.heap /\ Rel cx H' ρ' s' /\ (VR cx ρ' s'.heap v v' /\ EnvSt cx env sc ρ' s'.heap)) (fun _ _=>False) s
  | .exc c Γ' H'=>wpAny (model cx.prog cx.w) A t (fun _ _=>False) (fun e s'=>∃ ρ',FullS env ρ s.heap ρ' s'.heap /\ Rel cx H' ρ' s' /\ EnvOk cx env sc ns Γ' ρ' s'.heap /\ Flying cx ρ' s.heap s'.heap c e) s
noncomputable def Kz (cx:Cx) (A:Around) (l:List Env) (env:Env) (sc:Scope) (ns:List (Option Str)) (t:Sem Flow) (m:Env' -> Hp -> ResS):Prop :=
  ∀ (Γ:Env') (H:Hp) (ρ:Rho) (s:Shared),Rel cx H ρ s -> EnvOk cx env sc ns Γ ρ s.heap -> Bo cx l ρ s.heap -> Bx cx A env sc ns (m Γ H) t ρ s
theorem Bx.bind {α β:Type} {t:Sem α} {m:M β} {V:β -> α -> Amb} {Γ:Env'} {H:Hp} {ρ:Rho} {s:Shared} {t':Sem Flow} {g:β -> Hp -> ResS} {K:α -> Sem Flow} (e0:EnvOk cx env sc ns Γ ρ s.heap) (x:Ay cx A (m H) t V ρ s)
    (y:∀ b a H' ρ' s',m H=.ok b H' -> Full ρ s.heap ρ' s'.heap -> Rel cx H' ρ' s' -> EnvOk cx env sc ns Γ ρ' s'.heap -> (V b a).P ρ' s'.heap -> Bx cx A env sc ns (g b H') (K a) ρ' s')
    (k:∀ Q E,wpAny (model cx.prog cx.w) A t (fun a s'=>wpAny (model cx.prog cx.w) A (K a) Q E s') E s -> wpAny (model cx.prog cx.w) A t' Q E s) :
    Bx cx A env sc ns (Fr m Γ g H) t' ρ s:=by
  unfold Fr
  cases e:m H with
  | bad=>trivial
  | exc c H' =>
    rw [e] at x
    refine k _ _ (wpAny_mono x (fun _ _ q=>q.elim) fun ex s' ⟨ρ',F,R,fl⟩=>⟨ρ',F.toS,R,e0.full F,fl⟩)
  | ok b H' =>
    rw [e] at x
    show Bx cx A env sc ns (g b H') t' ρ s
    cases e2:g b H' with
    | bad=>trivial
    | next Γ2 H2 =>
      refine k _ _ (wpAny_mono x (fun a s' ⟨ρ',F,R,v⟩=>?_) fun _ _ q=>q.elim)
      have z:=y b a H' ρ' s' e F R (e0.full F) v
      rw [e2] at z
      exact wpAny_mono z (fun f s'' ⟨h1,ρ'',F',R',e'⟩=>⟨h1,ρ'',F.toS.trans F',R',e'⟩) fun _ _ q=>q.elim
    | ret v2 H2 =>
      refine k _ _ (wpAny_mono x (fun a s' ⟨ρ',F,R,v⟩=>?_) fun _ _ q=>q.elim)
      have z:=y b a H' ρ' s' e F R (e0.full F) v
      rw [e2] at z
      exact wpAny_mono z (fun f s'' ⟨v',ρ'',h1,F',R',e'⟩=>⟨v',ρ'',h1,F.toS.trans F',R',e'⟩) fun _ _ q=>q.elim
    | exc c2 Γ2 H2 =>
      refine k _ _ (wpAny_mono x (fun a s' ⟨ρ',F,R,v⟩=>?_) fun _ _ q=>q.elim)
      have z:=y b a H' ρ' s' e F R (e0.full F) v
      rw [e2] at z
      exact wpAny_mono z (fun _ _ q=>q) fun ex s'' ⟨ρ'',F',R',e',fl⟩=>⟨ρ'',F.toS.trans F',R',e',fl.older F.live⟩
theorem D0 {Γ:Env'} {H:Hp} {ρ:Rho} {s:Shared} {i:Nat} {y:Str} {mv:Val} {v:Value} {Q:Unit -> Shared -> Prop} {E:Value -> Shared -> Prop} (hlen:Γ.length=ns.length) (hnd:∀ (i j:Nat) (y:Str),ns[i]?=some (some y) -> ns[j]?=some (some y) -> i=j)
    (R:Rel cx H ρ s) (e0:EnvOk cx env sc ns Γ ρ s.heap) (ho:Fq sc ns i y=true) (hv:VR cx ρ s.heap mv v)
    (k:∀ h' tk,FullS env ρ s.heap ρ h' -> Rel cx H ρ { s with heap:=h',toks:=tk } -> EnvOk cx env sc ns (Γ.set i (some mv)) ρ h' ->
      (∃ q o,((sc.names.lookup y=some .local /\ q=env.locals) \/ (sc.names.lookup y=some .cell /\ env.cells.lookup y=some q)) /\ Heap.SameBut q s.heap h' /\ h'.get? q=some o) -> Q () { s with heap:=h',toks:=tk }) :
    wpAny (model cx.prog cx.w) A (storeName env y v) Q E s:=by
  have hown:(sc.names.lookup y=some .local \/ sc.names.lookup y=some .cell) /\ ns[i]?=some (some y):=by
    exact ⟨T3 (an1 ho),of_decide_eq_true (an2 ho)⟩
  obtain ⟨hk,hi⟩:=hown
  have hiΓ:i < Γ.length:=by rw [hlen];exact (List.getElem?_eq_some_iff.mp hi).1
  have set_i:(Γ.set i (some mv))[i]?=some (some mv):=by rw [List.getElem?_set_self hiΓ]
  have set_j:∀ j,j≠i -> (Γ.set i (some mv))[j]?=Γ[j]?:=fun j hj=>List.getElem?_set_ne (fun q=>hj q.symm)
  rcases hk with hk | hk
  · have kd:env.kindOf y=some .local:=e0.st.kinds y _ hk
    obtain ⟨m,hm⟩:=e0.st.loc
    refine wpAny_storeName_local kd hm (fun h' hn hs=>?_) (by rw [e0.st.fn];rfl)
    refine ex3 (id hm) fun o es ep zz=>As zz fun eo d _=>?_
    refine ex3 (id hn) fun o' es' ep' zz=>As zz fun eo' d' _=>?_
    have n1:¬ Hb o:=fun f=>f.notDict _ _ d
    have n2:∀ C,¬ Dg o C:=fun C f=>f.notDict _ _ d
    have St:Step ρ s.heap ρ h':=Step.but eo' eo hs n1 n2
    have notc:∀ z c,env.cells.lookup z=some c -> c≠env.locals:=fun z c hc q=>by
      obtain ⟨⟨v,ob,e',dc⟩,_⟩:=e0.st.cells z c hc
      rw [q,eo] at e';cases e'
      rw [d] at dc;cases dc
    refine (fun a b c=>k h' (s.toks+1) a b c ⟨env.locals,o',.inl ⟨hk,rfl⟩,hs,eo'⟩) ⟨Jc.refl _ _,fun b ob eb _ nb _=>⟨ob,by rw [hs.2 b nb];exact eb,.refl ob⟩,SameBut.live hs eo'⟩ (R.but eo' eo hs n1 n2 e0.st.locN e0.st.locB) ⟨?_,by rw [List.length_set];exact hlen,?_⟩
    · refine ⟨e0.st.fn,e0.st.glob,e0.st.blt,e0.st.kinds,⟨_,hn⟩,e0.st.locN,e0.st.locB,fun z c hc=>?_,e0.st.hasCell,e0.st.apart⟩
      refine As (e0.st.cells z c hc) fun zn0 c1 c2=>?_;obtain ⟨u,hu⟩:=zn0
      exact ⟨⟨u,Bc hu fun ob eb=>⟨ob,by rw [hs.2 c (notc z c hc)];exact eb,rfl⟩⟩,c1,c2⟩
    · intro j z mz hj hz
      by_cases q:j=i
      · subst q
        rw [set_i] at hz;cases hz
        rw [hi] at hj;cases hj
        exact ⟨v,.inl ⟨kd,_,hn,by simp⟩,hv.step St⟩
      · rw [set_j j q] at hz
        refine ex1 (e0.vals j z mz hj hz) fun u zz=>Ac zz fun hu ru=>?_
        have zy:z≠y:=fun e=>q (hnd j i y (e▸hj) hi)
        refine ⟨u,?_,ru.step St⟩
        rcases hu with ⟨kz,m',hm',ez⟩ | ⟨kz,c,hc,ez⟩
        · refine .inl ⟨kz,_,hn,?_⟩
          refine Ah fun G kG=>?_
          refine ex3 hm' fun o2 es2 ep2 zz=>By zz fun eo2 d2 _ f2=>?_
          refine ex3 hm fun o3 es3 ep3 zz=>By zz fun eo3 d3 _ f3=>?_
          refine kG ?_
          rw [eo2] at eo3;cases eo3
          rw [d2] at d3;cases d3
          simp only [if_neg zy]
          rw [<- f3 z,f2 z];exact ez
        · exact .inr ⟨kz,c,hc,Bc ez fun ob eb=>⟨ob,by rw [hs.2 c (notc z c hc)];exact eb,rfl⟩⟩
  · have kd:env.kindOf y=some .cell:=e0.st.kinds y _ hk
    refine Ah fun G kG=>?_
    obtain ⟨c,hc⟩:=e0.st.hasCell y (.inl hk)
    refine As (e0.st.cells y c hc) fun zn0 cn cb=>?_;obtain ⟨u0,hu0⟩:=zn0
    refine kG ?_
    refine wpAny_storeName_cell e0.st.fn kd hc hu0 fun h' hn hs=>?_
    refine Ah fun G kG=>?_
    refine ex1 (id hu0) fun o zz=>Ac zz fun eo d=>?_
    refine ex1 (id hn) fun o' zz=>Ac zz fun eo' d'=>?_
    refine kG ?_
    have n1:¬ Hb o:=fun f=>by rcases f with ⟨_,_,_,f⟩ | ⟨_,_,f⟩ <;> rw [d] at f <;> cases f
    have n2:∀ C,¬ Dg o C:=fun C f=>by refine As f fun _ zn1 _=>?_;obtain ⟨_,f⟩:=zn1;rw [d] at f;cases f
    have St:Step ρ s.heap ρ h':=Step.but eo' eo hs n1 n2
    have notl:env.locals≠c:=fun q=>by
      refine ex1 e0.st.loc fun m zz=>ex3 zz fun ob es ep zz=>As zz fun e' dl _=>?_
      rw [q,eo] at e';cases e'
      rw [d] at dl;cases dl
    have locK:∀ ob,s.heap.get? env.locals=some ob -> ∃ o',h'.get? env.locals=some o' /\ o'.data=ob.data:=fun ob eb=>⟨ob,by rw [hs.2 _ notl];exact eb,rfl⟩
    refine (fun a b c'=>k h' s.toks a b c' ⟨c,o',.inr ⟨hk,hc⟩,hs,eo'⟩) ⟨Jc.refl _ _,fun b ob eb _ _ nb=>⟨ob,by rw [hs.2 b (fun q=>nb y (q▸hc))];exact eb,.refl ob⟩,SameBut.live hs eo'⟩ (R.but eo' eo hs n1 n2 cn cb) ⟨?_,by rw [List.length_set];exact hlen,?_⟩
    · obtain ⟨m,hm⟩:=e0.st.loc
      refine ⟨e0.st.fn,e0.st.glob,e0.st.blt,e0.st.kinds,⟨m,Ba hm locK⟩,e0.st.locN,e0.st.locB,fun z c' hc'=>?_,e0.st.hasCell,e0.st.apart⟩
      refine As (e0.st.cells z c' hc') fun zn0 c1 c2=>?_;obtain ⟨u,hu⟩:=zn0
      by_cases q:c'=c
      · subst q;exact ⟨⟨_,hn⟩,c1,c2⟩
      · exact ⟨⟨u,Bc hu fun ob eb=>⟨ob,by rw [hs.2 c' q];exact eb,rfl⟩⟩,c1,c2⟩
    · intro j z mz hj hz
      by_cases q:j=i
      · subst q
        rw [set_i] at hz;cases hz
        rw [hi] at hj;cases hj
        exact ⟨v,.inr ⟨.inl kd,c,hc,hn⟩,hv.step St⟩
      · rw [set_j j q] at hz
        refine ex1 (e0.vals j z mz hj hz) fun u zz=>Ac zz fun hu ru=>?_
        have zy:z≠y:=fun e=>q (hnd j i y (e▸hj) hi)
        refine ⟨u,?_,ru.step St⟩
        rcases hu with ⟨kz,m',hm',ez⟩ | ⟨kz,c',hc',ez⟩
        · exact .inl ⟨kz,m',Ba hm' locK,ez⟩
        · have cc:c'≠c:=fun e=>zy (e0.st.apart z y c' hc' (e▸hc))
          exact .inr ⟨kz,c',hc',Bc ez fun ob eb=>⟨ob,by rw [hs.2 c' cc];exact eb,rfl⟩⟩
end
noncomputable def Gl (cx:Cx) (Φ:Funs) (d:Nat):Prop :=
  ∀ (k:Nat) (a:Addr) (args:List Val) (vals:List Value) (A:Around) (l:List Env),cx.fns[k]?=some a -> RoomF A d -> A.frames=some l ->
    Sim cx A ((Amb.vrs cx args vals).and (Amb.frames cx l)) (call (.ref a) vals) (Φ k args) (Amb.vr cx)
section
variable {cx:Cx} {N:Names} {A:Around} {env:Env} {sc:Scope} {ns:List (Option Str)} {Γ:Env'} {Φ:Funs} {d:Nat} {l:List Env}
theorem Base.func (B:Base cx N) {k:Nat} {a:Addr} (hk:cx.fns[k]?=some a) (hd:∃ f,cx.T.funs[k]?=some f):∃ o fd,cx.h₀.get? a=some o /\ o.data=.func fd:=by
  refine Ah fun G kG=>?_
  obtain ⟨f,hf⟩:=hd
  refine ex4 ((B.fns k a f hk hf).is) fun o fd body ns zz=>By zz fun e _ d _=>?_
  refine kG ?_
  exact ⟨o,fd,e,d⟩
theorem Ug (B:Base cx N) {f:Nat} (hΦ:∀ a args vals,cx.fns[f]?=some a -> Sim cx A ((Amb.vrs cx args vals).and (Amb.frames cx l)) (call (.ref a) vals) (Φ f args) (Amb.vr cx)) {x:Str} {xs:List Expr} {es:MEs} {np pos:Pos} (hg:Bd sc x=true) (hk:Do N.funs x f=true) (hex:∃ g,cx.T.funs[f]?=some g) (hes:ckEs N sc ns es xs=true)
    (y:Sim cx A ((Amb.env cx env sc ns Γ).and (Amb.frames cx l)) (spliced (xs.map fun e=>(false,eval e env))) (evalEs cx.T Φ es Γ) (Amb.vrs cx)) :
    Sim cx A ((Amb.env cx env sc ns Γ).and (Amb.frames cx l)) (eval (.Call (.Name x np) xs [] pos) env) (Ai cx.T Φ (.call f es) Γ) (Amb.vr cx):=by
  refine Ah fun G kG=>?_
  refine ex2 B.ns fun mg mb zz=>By zz fun ng nb q _=>?_
  refine ex1 (q x f (C8 hk)) fun a zz=>Ac zz fun ha hx=>?_
  refine ex2 (B.func ha hex) fun o fd zz=>Ac zz fun ho hd=>?_
  refine kG ?_
  intro H ρ s R p
  refine E3.mono (E4 (f:=.ref a) (K:=fun vs Q E s=>(s.heap.get? a=some o /\ o.data=.func fd) /\ wpAny (model cx.prog cx.w) A (call (.ref a) vs) Q E s) (fun e=>Fg (e▸hes)) R (y H ρ s R p) ?_ ?_) ?_
  · intro ms vs H1 ρ1 s1 _ F1 R1 vrs
    exact E3.andK ⟨R1.base _ _ ho,hd⟩ (hΦ a ms vs ha H1 ρ1 s1 R1 ⟨vrs,(Amb.frames cx l).st _ _ _ _ p.2 F1⟩)
  · exact fun vs Q E Q' E' s h k1 k2=>⟨h.1,wpAny_mono h.2 k1 k2⟩
  · intro Q E h
    refine wpAny_Call_ofName (wp_glob R p.1.st hg ng nb (.inl hx) ?_)
    rw [Al pos (Cm hes)]
    exact Calls.callWith_function (o:=o) (fd:=fd) (wpAny_mono h (fun b s₁ h₁=>by rw [h₁.1];exact h₁.2) fun _ _ q=>q)
theorem Dw {α:Type}:∀ {ns:List Str} {vs:List α} {i:Nat} {y:Str} {v:α},ns.Nodup -> ns[i]?=some y -> vs[i]?=some v -> (ns.zip vs).lookup y=some v
  | [],_,_,_,_,_,h,_=>by simp at h
  | _ :: _,[],_,_,_,_,_,h=>by simp at h
  | n :: ns,u :: vs,0,y,v,_,h1,h2=>by simp at h1 h2;subst h1 h2;simp [List.zip_cons_cons]
  | n :: ns,u :: vs,i+1,y,v,nd,h1,h2=>by
    simp at h1 h2
    have ne:(y == n)=false:=by
      have:y∈ns:=List.mem_of_getElem? h1
      simpa using fun e:y=n=>(List.nodup_cons.mp nd).1 (e▸this)
    rw [List.zip_cons_cons,List.lookup_cons,ne]
    exact Dw (List.nodup_cons.mp nd).2 h1 h2
theorem L9:∀ {ns:List Str} {vs:List Value},ns.Nodup -> vs.length=ns.length -> (ns.filterMap fun n=>((ns.zip vs).lookup n).map (n,·))=ns.zip vs:=by
  have gen:∀ (ns:List Str) (vs:List Value) (look:Str -> Option Value),vs.length=ns.length -> (∀ (i:Nat) (y:Str) (v:Value),ns[i]?=some y -> vs[i]?=some v -> look y=some v) -> (ns.filterMap fun n=>(look n).map (n,·))=ns.zip vs:=by
    intro ns
    induction ns with
    | nil=>intro vs look _ _;rfl
    | cons n ns ih =>
      intro vs look hl k
      cases vs with
      | nil=>simp at hl
      | cons v vs =>
        have e:=k 0 n v (by simp) (by simp)
        rw [List.filterMap_cons,e]
        simp only [Option.map_some,List.zip_cons_cons]
        rw [ih vs look (by simpa using hl) fun i y u h1 h2=>k (i+1) y u (by simpa using h1) (by simpa using h2)]
  intro ns vs nd hl
  exact gen ns vs _ hl fun i y v h1 h2=>Dw nd h1 h2
theorem Uh {α:Type} {c:Prop} [Decidable c] {x y r:α} (h:¬ c) (k:y=r):(if c then x else y)=r:=(if_neg h).trans k
theorem Ki {fd:FuncData} {vals:List Value} {names:List Str} (h1:fd.params.posonlyargs=[]) (h2:fd.params.args.map (·.arg)=names) (h3:fd.params.vararg=none) (h4:fd.params.kwonlyargs=[]) (h5:fd.params.kwarg=none) (h6:fd.defaults=.none)
    (nd:names.Nodup) (hl:vals.length=names.length):bindArgs fd ⟨vals,[]⟩=pure (names.zip vals):=by
  have hmiss:∀ k:Nat,((names.take k).filter fun n=>((names.zip vals).lookup n).isNone)=[]:=by
    intro k
    rw [List.filter_eq_nil_iff]
    intro n hn
    obtain ⟨i,hi⟩:=List.mem_iff_getElem?.mp (List.mem_of_mem_take hn)
    have lt:i < vals.length:=by rw [hl];exact (List.getElem?_eq_some_iff.mp hi).1
    rw [Dw nd hi (List.getElem?_eq_getElem lt)]
    simp
  have hf:=L9 nd hl
  obtain ⟨_,_,⟨po,ar,va,kw,kd,ka,de⟩,_,_,_,_,df,_⟩:=fd
  cases h1;cases h3;cases h4;cases h5;cases h6
  subst h2
  refine Uh (fun w=>?_) ?_
  · rw [Bool.and_eq_true] at w
    exact absurd (of_decide_eq_true w.1) (by rw [hl];exact Nat.lt_irrefl _)
  refine Uh (fun w=>?_) ?_
  · have e:=hmiss ((List.map (·.arg) ar).length - (List.drop (0 - (List.map (·.arg) ar).length) ([]:List Value)).length)
    exact Bool.false_ne_true ((congrArg (fun l=>!List.isEmpty l) e).symm.trans w)
  have z:∀ (X:List Str) (n:Nat),X.zip (List.drop n ([]:List Value))=[]:=fun X n=>by rw [List.drop_nil,List.zip_nil_right]
  refine Eq.trans (congrArg (fun (l:List (Str × Value))=>Bind.bind (forIn l _ _) _) (z (List.drop _ (List.map (·.arg) ar)) _)) ?_
  refine Eq.trans ?_ (congrArg pure hf)
  exact congrArg (fun l=>(pure (List.filterMap (fun n=>Option.map (fun x=>(n,x)) (List.lookup n (List.zip (List.map (fun x=>x.arg) ar) vals))) l):Sem (List (Str × Value)))) (List.append_nil _)
set_option tactic.hygienic true in
theorem D1:∀ {names:List (Str × NameKind)} {n:Nat} {acc:List (Str × Addr)} {y:Str},((y,NameKind.cell)∈names \/ (acc.lookup y).isSome=true) -> ((cellsFrom n names acc).lookup y).isSome=true
  | [],_,_,_,h=>by
    rcases h with h | h
    · cases h
    · exact h
  | (z,k) :: r,n,acc,y,h=>by
    unfold cellsFrom
    split
    · rename_i hk
      refine D1 ?_
      rcases h with h | h
      · rcases List.mem_cons.mp h with e | h
        · cases e;right;simp
        · exact .inl h
      · right
        rw [List.lookup_cons]
        split
        · rfl
        · exact h
    · rename_i hk
      refine D1 ?_
      rcases h with h | h
      · rcases List.mem_cons.mp h with e | h
        · cases e;simp at hk
        · exact .inl h
      · exact .inr h
theorem Ui {kd:Str -> Option NameKind}:∀ {binds:List (Str × Value)} {m:Str -> Option Value} {y:Str} {v:Value},(binds.map (·.1)).Nodup -> (y,v)∈binds -> kd y=some .local -> bindL kd binds m y=some v:=by
  have keep:∀ (binds:List (Str × Value)) (m:Str -> Option Value) (y:Str),y ∉ binds.map (·.1) -> bindL kd binds m y=m y:=by
    intro binds
    induction binds with
    | nil=>intro m y _;rfl
    | cons b r ih =>
      intro m y hy
      obtain ⟨n,v⟩:=b
      simp only [List.map_cons,List.mem_cons,not_or] at hy
      unfold bindL
      rw [ih _ _ hy.2]
      split
      · simp [hy.1]
      · rfl
  intro binds
  induction binds with
  | nil=>intro m y v _ h _;cases h
  | cons b r ih =>
    intro m y v nd h hk
    obtain ⟨n,u⟩:=b
    rw [List.map_cons,List.nodup_cons] at nd
    unfold bindL
    rcases List.mem_cons.mp h with e | h
    · cases e
      rw [keep _ _ _ nd.1,if_pos hk]
      simp
    · exact ih nd.2 h hk
theorem Uj {kd:Str -> Option NameKind}:∀ {binds:List (Str × Value)} {m:Str -> Option Value} {y:Str} {v:Value},(binds.map (·.1)).Nodup -> (y,v)∈binds -> kd y≠some .local -> bindC kd binds m y=some v:=by
  have keep:∀ (binds:List (Str × Value)) (m:Str -> Option Value) (y:Str),y ∉ binds.map (·.1) -> bindC kd binds m y=m y:=by
    intro binds
    induction binds with
    | nil=>intro m y _;rfl
    | cons b r ih =>
      intro m y hy
      obtain ⟨n,v⟩:=b
      simp only [List.map_cons,List.mem_cons,not_or] at hy
      unfold bindC
      rw [ih _ _ hy.2]
      split
      · rfl
      · simp [hy.1]
  intro binds
  induction binds with
  | nil=>intro m y v _ h _;cases h
  | cons b r ih =>
    intro m y v nd h hk
    obtain ⟨n,u⟩:=b
    rw [List.map_cons,List.nodup_cons] at nd
    unfold bindC
    rcases List.mem_cons.mp h with e | h
    · cases e
      rw [keep _ _ _ nd.1,if_neg hk]
      simp
    · exact ih nd.2 h hk
noncomputable def Aa0 (cx:Cx) (N:Names) (Φ:Funs) (d:Nat):Prop :=
  ∀ (body:MSs) (stmts:List Stmt) (env:Env) (sc:Scope) (ns:List (Option Str)) (A:Around) (l:List Env),ckSs N sc ns body stmts=true -> (∀ (i j:Nat) (y:Str),ns[i]?=some (some y) -> ns[j]?=some (some y) -> i=j) -> Room A d -> A.frames=some (env :: l) ->
    env.frame=some env.locals -> Kz cx A (env :: l) env sc ns (execs stmts env) (execSs cx.T Φ body)
theorem Fh:∀ {ns:List (Option Str)},Hs ns=true -> ∀ (i j:Nat) (y:Str),ns[i]?=some (some y) -> ns[j]?=some (some y) -> i=j
  | [],_,i,_,_,h,_=>by simp at h
  | none :: r,nd,i,j,y,h1,h2=>by
    cases i with
    | zero=>simp at h1
    | succ i=>cases j with
      | zero=>simp at h2
      | succ j=>simp at h1 h2;rw [Fh (by simpa [Hs] using nd) i j y h1 h2]
  | some x :: r,nd,i,j,y,h1,h2=>by
    simp only [Hs,Bool.and_eq_true,Bool.not_eq_true',List.contains_eq_mem,decide_eq_false_iff_not] at nd
    cases i with
    | zero =>
      cases j with
      | zero=>rfl
      | succ j =>
        simp at h1 h2
        subst h1
        exact absurd (List.mem_of_getElem? h2) nd.1
    | succ i =>
      cases j with
      | zero =>
        simp at h1 h2
        subst h2
        exact absurd (List.mem_of_getElem? h1) nd.1
      | succ j =>
        simp at h1 h2
        rw [Fh nd.2 i j y h1 h2]
theorem Nm {ns:List Str} (h:∀ (i j:Nat) (y:Str),(ns.map some)[i]?=some (some y) -> (ns.map some)[j]?=some (some y) -> i=j):ns.Nodup:=by
  refine List.pairwise_iff_getElem.mpr fun i j hi hj lt e=>?_
  have:=h i j ns[i] (by rw [List.getElem?_map,List.getElem?_eq_getElem hi];rfl) (by rw [List.getElem?_map,List.getElem?_eq_getElem hj,e];rfl)
  exact o31 lt this
theorem Uk {f:MFun} {names:List Str} {params:Arguments} {body:List Stmt} {sc:Scope} (h:ckF N f names params body sc=true) :
    f.arity+f.nvars=names.length /\ names.take f.arity=params.args.map (·.arg) /\ params.posonlyargs=[] /\ params.vararg=none /\ params.kwonlyargs=[] /\ params.kwarg=none /\ Hs (names.map some)=true /\
      sc.isCoroutine=false /\ sc.isGenerator=false /\ sc.kind=.function /\ ckSs N sc (names.map some) f.body body=true /\
      (∀ p∈sc.names,p.2=.cell -> sc.names.lookup p.1=some .cell) /\ (∀ p∈sc.names,p.2≠.free) /\ (∀ y∈names.take f.arity,sc.names.lookup y=some .local \/ sc.names.lookup y=some .cell):=by
  have h2:=an2 h
  have h3:=an2 h2
  have h4:=an2 h3
  have h5:=an2 h4
  have h6:=an2 h5
  have h7:=an2 h6
  have h8:=an2 h7
  have h9:=an2 h8
  have h10:=an2 h9
  have h11:=an2 h10
  have h12:=an2 h11
  exact ⟨of_decide_eq_true (an1 h),of_decide_eq_true (an1 h2),List.isEmpty_iff.mp (an1 h3),Option.isNone_iff_eq_none.mp (an1 h4),List.isEmpty_iff.mp (an1 h5),Option.isNone_iff_eq_none.mp (an1 h6),an1 h7,not_not (an1 h8),not_not (an1 h9),of_decide_eq_true (an1 h10),an1 h11,
    fun p hp hc=>(of_decide_eq_true (an1 (List.all_eq_true.mp (an1 h12) p hp))).trans (congrArg some hc),fun p hp=>of_decide_eq_false (not_not (an2 (List.all_eq_true.mp (an1 h12) p hp))),fun y hy=>T3 (List.all_eq_true.mp (an2 h12) y hy)⟩
theorem Room.deeper {d:Nat} (r:RoomF A (d+1)) (env:Env):Room (A.deeper env) d:=⟨r.hh,by have:=r.depth;show A.depth+1+_+_ < _;exact o32 this,by have:=r.units;show A.units+3+_+_ < _;exact o33 this⟩
theorem Ul (B:Base cx N) {k:Nat} {a:Addr} {args:List Val} {vals:List Value} (hk:cx.fns[k]?=some a) (room:RoomQ A (d+1)) (hfr:A.frames=some l)
    (hb:∀ (f:MFun) (stmts:List Stmt) (env:Env) (sc:Scope) (ns:List (Option Str)),cx.T.funs[k]?=some f -> ckSs N sc ns f.body stmts=true -> (∀ (i j:Nat) (y:Str),ns[i]?=some (some y) -> ns[j]?=some (some y) -> i=j) -> (A.deeper env).frames=some (env :: l) -> env.frame=some env.locals ->
      Kz cx (A.deeper env) (env :: l) env sc ns (execs stmts env) (execSs cx.T (Ag cx.T d) f.body)) :
    Sim cx A ((Amb.vrs cx args vals).and (Amb.frames cx l)) (call (.ref a) vals) (Ag cx.T (d+1) k args) (Amb.vr cx):=by
  intro H ρ s R ⟨vrs,fok⟩
  rw [R8]
  cases hf:cx.T.funs[k]? with
  | none=>trivial
  | some f =>
    show Ay cx A (if args.length=f.arity then Ab2 (execSs cx.T (Ag cx.T d) f.body (args.map some++List.replicate f.nvars none) H) else .bad) _ _ ρ s
    by_cases hl:args.length=f.arity
    · rw [if_pos hl]
      refine Ah fun G kG=>?_
      refine ex4 ((B.fns k a f hk hf).is) fun o fd body names zz=>Ah2 zz fun ho hoc hdata hcd hbody hclo hglob hblt hdf hkd hck=>?_
      refine Ah3 (Uk hck) fun c1 c2 c3 c4 c5 c6 c7 c8 c9 c10 c11 c12 c13 c14=>?_
      refine kG ?_
      have nd:=Fh c7
      have nds:names.Nodup:=Nm nd
      have ndt:(names.take f.arity).Nodup:=nds.sublist (List.take_sublist _ _)
      have vlen:vals.length=(names.take f.arity).length:=by rw [List.length_take,<- vrs.length,hl];exact o34 c1
      have hbind:bindArgs fd ⟨vals,[]⟩=pure ((names.take f.arity).zip vals):=Ki c3 c2.symm c4 c5 c6 hdf ndt vlen
      have hkind:∀ x∈(names.take f.arity).zip vals,fd.scope.names.lookup x.1=some .local \/ (fd.scope.names.lookup x.1=some .cell /\ ((cellsFrom (s.heap.objs.size+1) fd.scope.names []).lookup x.1).isSome=true):=by
        intro x hx
        rcases c14 x.1 (List.of_mem_zip hx).1 with h | h
        · exact .inl h
        · exact .inr ⟨h,D1 (.inl (mem_of_lookup h))⟩
      generalize henv:callEnvC fd s.heap.objs.size a=env
      have eloc:env.locals=s.heap.objs.size:=by rw [<- henv];rfl
      have escope:env.scope=fd.scope:=by rw [<- henv];rfl
      have ecells:env.cells=cellsFrom (s.heap.objs.size+1) fd.scope.names []:=by rw [<- henv];rfl
      have egl:env.globals=mainGlobals:=by rw [<- henv];exact hglob
      have ebl:env.builtins=builtinsNs:=by rw [<- henv];exact hblt
      have efr:env.frame=some env.locals:=by rw [<- henv];rfl
      have ekind:∀ y,env.kindOf y=fd.scope.names.lookup y:=fun y=>by unfold Env.kindOf;rw [escope]
      -- the body
      have main:∀ s₁,InCallC s env.locals (bindL env.kindOf ((names.take f.arity).zip vals) fun _=>none) env.cells (bindC env.kindOf ((names.take f.arity).zip vals) fun _=>none) s₁ ->
          Full ρ s.heap ρ s₁.heap /\ Bx cx (A.deeper env) env fd.scope (names.map some) (execSs cx.T (Ag cx.T d) f.body (args.map some++List.replicate f.nvars none) H) (execs body env) ρ s₁:=by
        intro s₁ x
        have hkeep:=x.toInCall.keep
        have F0:Full ρ s.heap ρ s₁.heap:=Full.more hkeep
        refine ex2 x.toInCall.same fun h₁ tk e1=>?_
        have R1:Rel cx H ρ s₁:=by rw [e1] at hkeep ⊢;exact R.more hkeep
        have locfresh:s.heap.get? env.locals=none:=by rw [eloc];exact Ap _
        have lvB:Hr cx.h₀ s.heap:=fun b o e=>⟨o,R.base b o e⟩
        have cfresh:∀ y c,env.cells.lookup y=some c -> s.heap.get? c=none:=fun y c hc=>Ff (by have:=x.above y c (mem_of_lookup hc);rw [eloc] at this;exact Nat.le_of_lt this)
        have cellFacts:∀ y c,env.cells.lookup y=some c -> s₁.heap.IsCell c (bindC env.kindOf ((names.take f.arity).zip vals) (fun _=>none) y):=fun y c hc=>x.cell y c hc
        have eok:EnvOk cx env fd.scope (names.map some) (args.map some++List.replicate f.nvars none) ρ s₁.heap:=by
          refine ⟨⟨by rw [escope];exact c10,egl,ebl,fun y kd hy=>?_,⟨_,x.toInCall.ns⟩,R.fresh_not locfresh,lvB.none locfresh,fun y c hc=>⟨⟨_,cellFacts y c hc⟩,R.fresh_not (cfresh y c hc),lvB.none (cfresh y c hc)⟩,fun y hy=>?_,fun y z c hy hz=>name_of_addr x.apart (mem_of_lookup hy) (mem_of_lookup hz)⟩,by rw [List.length_append,List.length_map,List.length_replicate,List.length_map,hl];exact c1,?_⟩
          · rw [ekind,hy]
            cases kd <;> first | rfl | exact .inl rfl | trivial
          · rcases hy with hy | hy
            · rw [ecells]
              exact Option.isSome_iff_exists.mp (D1 (.inl (mem_of_lookup hy)))
            · exact absurd rfl (c13 _ (mem_of_lookup hy))
          · intro i y mv hi hm
            have hi':names[i]?=some y:=by rw [List.getElem?_map] at hi;cases q:names[i]? <;> rw [q] at hi <;> simp at hi;rw [hi]
            by_cases lt:i < f.arity
            · have ha:args[i]?=some mv:=by
                rw [List.getElem?_append_left (by rw [List.length_map,hl];exact lt),List.getElem?_map] at hm
                cases q:args[i]? <;> rw [q] at hm <;> simp at hm
                rw [hm]
              refine ex1 (vrs.get ha) fun v zz=>Ac zz fun ev vr=>?_
              have et:(names.take f.arity)[i]?=some y:=by rw [List.getElem?_take,if_pos lt];exact hi'
              have mem:(y,v)∈(names.take f.arity).zip vals:=by
                refine List.mem_iff_getElem?.mpr ⟨i,?_⟩
                rw [List.getElem?_zip_eq_some];exact ⟨et,ev⟩
              have ndz:(((names.take f.arity).zip vals).map (·.1)).Nodup:=by
                rw [List.map_fst_zip (by rw [vlen];exact Nat.le_refl _)];exact ndt
              refine ⟨v,?_,vr.step F0.step⟩
              rcases c14 y (List.mem_of_getElem? et) with h | h
              · exact .inl ⟨by rw [ekind];exact h,_,x.toInCall.ns,Ui ndz mem (by rw [ekind];exact h)⟩
              · obtain ⟨c,hc⟩:=Option.isSome_iff_exists.mp (D1 (n:=s.heap.objs.size+1) (acc:=[]) (.inl (mem_of_lookup h)))
                rw [<- ecells] at hc
                have:=cellFacts y c hc
                rw [Uj ndz mem (by rw [ekind,h];simp)] at this
                exact .inr ⟨.inl (by rw [ekind];exact h),c,hc,this⟩
            · exfalso
              rw [List.getElem?_append_right (by rw [List.length_map,hl];exact o35 c1 lt),List.getElem?_replicate] at hm
              split at hm <;> simp at hm
        refine ⟨F0,hb f body env fd.scope (names.map some) hf c11 nd (by show A.frames.map (env :: ·)=_;rw [hfr];rfl) efr _ H ρ s₁ R1 eok ?_⟩
        · intro e he
          rcases List.mem_cons.mp he with rfl | he
          · refine Ah fun G kG=>?_
            refine ex3 x.toInCall.ns fun o' es ep zz=>As zz fun eo' d' _=>?_
            refine kG ?_
            exact ⟨by rw [escope,c10];simp,e.locals,o',efr,lvB.none locfresh,eo',⟨_,_,d'⟩,R.fresh_not locfresh⟩
          · exact (fok.full F0) e he
      -- what stands of the caller's heap
      have back:∀ {s₁ ρ' h'},Full ρ s.heap ρ s₁ -> FullS env ρ s₁ ρ' h' -> (∀ y c,env.cells.lookup y=some c -> s.heap.get? c=none) -> Full ρ s.heap ρ' h':=by
        intro s₁ ρ' h' F0 F1 cf
        refine ⟨?_,fun b ob e n=>?_,F0.live.trans F1.live⟩
        · exact F0.grow.trans F1.grow F0.live
        · refine Ah fun G kG=>?_
          refine ex1 (F0.keep b ob e n) fun o1 zz=>Ac zz fun e1 u1=>?_
          refine ex1 (F1.keep b o1 e1 n (fun q=>by rw [q,eloc,Ap] at e;exact nomatch e) (fun y q=>by rw [cf y b q] at e;cases e)) fun o2 zz=>Ac zz fun e2 u2=>?_
          refine kG ?_
          exact ⟨o2,e2,u1.trans u2⟩
      have cf:∀ y c,env.cells.lookup y=some c -> s.heap.get? c=none:=fun y c hc=>by
        refine Ff ?_
        have ok:=cellsFrom_ok fd.scope.names (s.heap.push { cls:=.type "frame",data:=.dict #[] }) (s.heap.objs.size+1) [] ⟨fun _ _ hm=>(nomatch hm),List.Pairwise.nil⟩ (by rw [Heap.size_push];exact Nat.le_refl _)
        rw [Heap.size_push] at ok
        rw [ecells] at hc
        exact Nat.le_of_succ_le (ok.empty y c (mem_of_lookup hc)).2
      have hlim:s.heap.NoLimit:=B.lim.keeps R.base
      have hcd':s.heap.CodeRec fd.code fd.qualname:=hcd.keeps R.base
      generalize hres:execSs cx.T (Ag cx.T d) f.body (args.map some++List.replicate f.nvars none) H=res at main
      cases res with
      | bad=>trivial
      | next Γ' H' =>
        refine wpAny_call (codeAny_call_cells (by have:=room.depth;exact o36 this) (R.base _ _ ho) hdata hlim hcd' hbody hbind hclo hkind (fun s₁ x=>?_) c8 c9 c10)
        rw [henv] at x ⊢
        obtain ⟨F0,sim⟩:=main s₁ x
        exact wpAny_mono sim (fun fl s' ⟨h1,ρ',F1,R',_⟩=>by refine Eq.symm h1▸?_;exact ⟨ρ',back F0 F1 cf,R',.none⟩) fun _ _ q=>q.elim
      | ret v H' =>
        refine wpAny_call (codeAny_call_cells (by have:=room.depth;exact o36 this) (R.base _ _ ho) hdata hlim hcd' hbody hbind hclo hkind (fun s₁ x=>?_) c8 c9 c10)
        rw [henv] at x ⊢
        obtain ⟨F0,sim⟩:=main s₁ x
        exact wpAny_mono sim (fun fl s' ⟨v',ρ',h1,F1,R',vr⟩=>by refine Eq.symm h1▸?_;exact ⟨ρ',back F0 F1 cf,R',vr.1⟩) fun _ _ q=>q.elim
      | exc c Γ' H'=>trivial
    · rw [if_neg hl];trivial
theorem Gl.step (B:Base cx N) (hb:Aa0 cx N (Ag cx.T d) d):Gl cx (Ag cx.T (d+1)) (d+1) :=
  fun k a args vals A l hk room hfr=>Ul B hk room.q hfr fun f stmts env sc ns _ h1 h2 h3 h4=>hb f.body stmts env sc ns (A.deeper env) l h1 h2 (Room.deeper room env) h3 h4
end
inductive ItOk (cx:Cx) (xs:List Val) (I:Addr) (i:Nat) (ρ:Rho) (h:Heap):Option Nat -> Prop
  | list {l:Nat} {p:Addr × Addr}:ρ[l]?=some p -> h.IsListIter I p.1 i -> ItOk cx xs I i ρ h (some l)
  | tup {a:Addr} {vs:List Value} {n:Nat}:h.get? a=some (T0 vs n) -> ¬ Aw ρ a -> VRs cx ρ h xs vs -> h.IsTupleIter I a i -> ItOk cx xs I i ρ h none
  | script {a:Addr} {vs:List Value} {n:Nat}:cx.h₀.get? a=some (A8 vs n) -> VRs cx ρ h xs vs -> h.IsListIter I a i -> ItOk cx xs I i ρ h none
  | rng {n:Int}:xs=(List.range n.toNat).map (fun (k:Nat)=>Val.int (k:Int)) -> IsRangeIter h I (i:Nat) ((n.toNat:Int) - (i:Nat)) 1 -> ItOk cx xs I i ρ h none
  | str {x:Str} {t:Tok} {ty:String}:xs=x.cps.toList.map (fun c=>Val.str ⟨#[c]⟩) -> (ty="str_ascii_iterator" \/ ty="str_iterator") -> h.IsStrIter I ty x t i -> ItOk cx xs I i ρ h none
noncomputable def Fz (o:Obj):Prop:=(∃ vs,o.data=.fields vs) /\ ∃ n,o.cls=.type n /\ n≠"range"
theorem Fz.not {o:Obj} (x:Fz o):¬ Hb o /\ ∀ C,¬ Dg o C:=by
  refine Ah fun G kG=>?_
  refine Ac x fun zn0 zz=>ex1 zz fun n zz=>Ac zz fun c ne=>?_;obtain ⟨vs,d⟩:=zn0
  refine kG ?_
  refine ⟨fun f=>?_,fun C f=>?_⟩
  · rcases f with ⟨_,xs,k,f⟩ | ⟨f,_⟩
    · rw [d] at f;cases f
    · rw [c] at f;cases f;exact ne rfl
  · rw [f.1] at c;cases c
theorem Fz.notDict {o:Obj} (x:Fz o) (es:Array DictEntry) (n:Nat):o.data≠.dict es n:=by
  obtain ⟨⟨vs,d⟩,_⟩:=x
  rw [d];exact fun q=>nomatch q
theorem Fz.notCell {o:Obj} (x:Fz o) (v:Option Value):o.data≠.cell v:=by
  obtain ⟨⟨vs,d⟩,_⟩:=x
  rw [d];exact fun q=>nomatch q
theorem D2 {vs:List Value} {n:Nat}:¬ Hb (A8 vs n) /\ ∀ C,¬ Dg (A8 vs n) C:=by
  refine ⟨fun f=>?_,fun C f=>by cases f.1⟩
  rcases f with ⟨f,_⟩ | ⟨f,_⟩
  · exact absurd (Value.type.inj f) (by decide)
  · exact absurd (Value.type.inj f) (by decide)
section
variable {cx:Cx} {A:Around} {xs:List Val} {I:Addr} {i:Nat} {ρ ρ':Rho} {s:Shared} {H:Hp} {src:Option Nat}
theorem ItOk.step {h h':Heap} (x:ItOk cx xs I i ρ h src) (st:Step ρ h ρ' h') (k:∀ o,h.get? I=some o -> h'.get? I=some o):ItOk cx xs I i ρ' h' src:=by
  cases x with
  | list hp hi=>exact .list (st.get hp) (hi.at k)
  | tup e n r hi=>exact .tup (st.keepT _ _ e (.inl ⟨rfl,_,_,rfl⟩) n).1 (st.keepT _ _ e (.inl ⟨rfl,_,_,rfl⟩) n).2 (r.step st) (hi.at k)
  | script e r hi=>exact .script e (r.step st) (hi.at k)
  | rng e hi=>exact .rng e (k _ hi)
  | str e ht hs=>refine ex1 hs fun o zz=>Ac zz fun e1 e2=>?_;exact .str e ht ⟨o,k o e1,e2⟩
theorem ItOk.obj {h:Heap} (x:ItOk cx xs I i ρ h src):∃ o,h.get? I=some o /\ Fz o:=by
  cases x with
  | list hp hi=>refine ex1 hi fun o zz=>As zz fun e c d=>?_;exact ⟨o,e,⟨_,d⟩,_,c,by decide⟩
  | tup e n r hi=>refine ex1 hi fun o zz=>As zz fun e c d=>?_;exact ⟨o,e,⟨_,d⟩,_,c,by decide⟩
  | script e r hi=>refine ex1 hi fun o zz=>As zz fun e c d=>?_;exact ⟨o,e,⟨_,d⟩,_,c,by decide⟩
  | rng e hi=>exact ⟨_,hi,⟨_,rfl⟩,_,rfl,by decide⟩
  | str e ht hs=>refine ex1 hs fun o zz=>As zz fun e c d=>?_;exact ⟨o,e,⟨_,d⟩,_,c,by rcases ht with rfl | rfl <;> decide⟩
theorem La {v:Val} {w:Value} (R:Rel cx H ρ s) (vr:VR cx ρ s.heap v w) (e:Cj v H=some (xs,src)) {Q:Value -> Shared -> Prop} {E:Value -> Shared -> Prop}
    (k:∀ o,(s.heap.push o).get? s.heap.objs.size=some o -> ItOk cx xs s.heap.objs.size 0 ρ (s.heap.push o) src -> Q (.ref s.heap.objs.size) { s with heap:=s.heap.push o }) :
    wpAny (model cx.prog cx.w) A (pyIter w) Q E s:=by
  have P:=fun o=>Full.push ρ s.heap o
  cases vr with
  | @loc l p hp =>
    · obtain ⟨hl,e⟩:=Xx e
      refine Ah fun G kG=>?_
      refine ex2 (R.listAt hl hp) fun vs n zz=>By zz fun _ g r z=>?_
      refine kG ?_
      subst e
      refine wpAny_pyIter_list (items:=vs.toArray) ⟨_,g,rfl,n,rfl⟩ (k _ (Heap.get?_push_size _ rfl) (.list hp ⟨_,Heap.get?_push_size _ rfl,rfl,rfl⟩))
  | @tup a vs n ms g no z r =>
    cases e
    exact wpAny_pyIter_tuple (items:=vs.toArray) ⟨_,g,rfl,n,rfl⟩ (k _ (Heap.get?_push_size _ rfl) (.tup (Heap.get?_push_of_some _ g) no (r.step (P _).step) ⟨_,Heap.get?_push_size _ rfl,rfl,rfl⟩))
  | @script a vs n ns g z r =>
    cases e
    exact wpAny_pyIter_list (items:=vs.toArray) ⟨_,R.base _ _ g,rfl,n,rfl⟩ (k _ (Heap.get?_push_size _ rfl) (.script g (r.step (P _).step) ⟨_,Heap.get?_push_size _ rfl,rfl,rfl⟩))
  | @rng a n t u v g no z1 z2 =>
    cases e
    refine wpAny_pyIter_range g (small_one (by decide) (by decide) z1 z2) (k _ (Heap.get?_push_size _ rfl) (.rng rfl ?_))
    have e1:Builtin.Range.rangeSize 0 n 1=((n.toNat:Nat):Int):=by rw [rangeSize_one];exact rs1
    rw [e1]
    simpa using Heap.get?_push_size s.heap (o:={ cls:=.type "range_iterator",data:=.fields #[rawInt 0,rawInt (n.toNat:Int),rawInt 1] }) rfl
  | str x t z =>
    cases e
    cases ha:x.cps.all (· < 128)
    · exact wpAny_pyIter_wide ha (k _ (Heap.get?_push_size _ rfl) (.str rfl (.inr rfl) ⟨_,Heap.get?_push_size _ rfl,rfl,rfl⟩))
    · exact wpAny_pyIter_ascii ha (k _ (Heap.get?_push_size _ rfl) (.str rfl (.inl rfl) ⟨_,Heap.get?_push_size _ rfl,rfl,rfl⟩))
  | _=>exact Aa e
theorem No (R:Rel cx H ρ s) (x:ItOk cx xs I i ρ s.heap src) (ck:chk src xs H=true) {m:Val} (hm:xs[i]?=some m) {Q:Option Value -> Shared -> Prop} {E:Value -> Shared -> Prop}
    (k:∀ v h' tk,Heap.SameBut I s.heap h' -> (∃ o,h'.get? I=some o) -> (∀ st:Step ρ s.heap ρ h',VR cx ρ h' m v /\ ItOk cx xs I (i+1) ρ h' src) -> Q (some v) { s with heap:=h',toks:=tk }) :
    wpAny (model cx.prog cx.w) A (pyNext (.ref I)) Q E s:=by
  cases x with
  | @list l p hp hi =>
    · refine Ah fun G kG=>?_
      refine ex2 (R.listAt (Qr ck) hp) fun vs n zz=>By zz fun _ g r z=>?_
      refine ex1 (r.get hm) fun v zz=>Ac zz fun ev vr=>?_
      refine kG ?_
      exact wpAny_pyNext_list_item (items:=vs.toArray) hi ⟨_,g,rfl,n,rfl⟩ (by simpa using ev) fun h' hi' hs=>k v h' s.toks hs (by refine ex1 hi' fun o zz=>Ac zz fun e _=>?_;exact ⟨o,e⟩) fun st=>⟨vr.step st,.list hp hi'⟩
  | @tup a vs n g no r hi =>
    refine ex1 (r.get hm) fun v zz=>Ac zz fun ev vr=>?_
    refine wpAny_pyNext_tuple_item (items:=vs.toArray) hi ⟨_,g,rfl,n,rfl⟩ (by simpa using ev) fun h' hi' hs=>k v h' s.toks hs (by refine ex1 hi' fun o zz=>Ac zz fun e _=>?_;exact ⟨o,e⟩) fun st=>⟨vr.step st,.tup (st.keepT _ _ g (.inl ⟨rfl,_,_,rfl⟩) no).1 no (r.step st) hi'⟩
  | @script a vs n g r hi =>
    refine ex1 (r.get hm) fun v zz=>Ac zz fun ev vr=>?_
    exact wpAny_pyNext_list_item (items:=vs.toArray) hi ⟨_,R.base _ _ g,rfl,n,rfl⟩ (by simpa using ev) fun h' hi' hs=>k v h' s.toks hs (by refine ex1 hi' fun o zz=>Ac zz fun e _=>?_;exact ⟨o,e⟩) fun st=>⟨vr.step st,.script g (r.step st) hi'⟩
  | @rng n e hi =>
    subst e
    have lt:i < n.toNat:=by
      have:=(List.getElem?_eq_some_iff.mp hm).1
      simpa using this
    have hm':m=.int (i:Int):=by
      rw [List.getElem?_map,List.getElem?_range lt] at hm
      simpa using hm.symm
    subst hm'
    refine wpAny_pyNext_range_item hi (by exact o37 lt) fun h' hi' hs=>k _ h' _ hs ⟨_,hi'⟩ fun st=>⟨.int _ _,.rng rfl ?_⟩
    have e1:((i+1:Nat):Int)=(i:Int)+1:=by exact o38
    have e2:((n.toNat:Int) - ((i+1:Nat):Int))=(n.toNat:Int) - (i:Int) - 1:=by exact o39
    rw [e1,<- e1,e2]
    exact hi'
  | @str x t ty e ht hs =>
    subst e
    rw [List.getElem?_map] at hm
    cases hc:x.cps.toList[i]? with
    | none=>rw [hc] at hm;exact Aa hm
    | some c =>
      rw [hc] at hm
      simp at hm
      subst hm
      have hc':x.cps[i]?=some c:=by simpa using hc
      have z1:(⟨#[c]⟩:Str).length <= sizeLine:=by show 1 <= sizeLine;decide
      rcases ht with rfl | rfl
      · exact wpAny_pyNext_ascii_item hs hc' fun h' hi' hsb=>k _ h' _ hsb (by refine ex1 hi' fun o zz=>Ac zz fun e _=>?_;exact ⟨o,e⟩) fun st=>⟨.str _ _ z1,.str rfl (.inl rfl) hi'⟩
      · exact wpAny_pyNext_wide_item hs hc' fun h' hi' hsb=>k _ h' _ hsb (by refine ex1 hi' fun o zz=>Ac zz fun e _=>?_;exact ⟨o,e⟩) fun st=>⟨.str _ _ z1,.str rfl (.inr rfl) hi'⟩
theorem Qz (hh:A.handled=none) (R:Rel cx H ρ s) (x:ItOk cx xs I i ρ s.heap src) (ck:chk src xs H=true) (hm:xs[i]?=none) {Q:Option Value -> Shared -> Prop} {E:Value -> Shared -> Prop}
    (k:∀ h' tk,Heap.ExtBut I s.heap h' -> Q none { s with heap:=h',toks:=tk }):wpAny (model cx.prog cx.w) A (pyNext (.ref I)) Q E s:=by
  cases x with
  | @list l p hp hi =>
    · refine Ah fun G kG=>?_
      refine ex2 (R.listAt (Qr ck) hp) fun vs n zz=>By zz fun _ g r z=>?_
      refine kG ?_
      have len:=r.length
      refine wpAny_pyNext_list_end (items:=vs.toArray) hh hi ⟨_,g,rfl,n,rfl⟩ ?_ fun h' he=>k h' s.toks he
      rw [List.getElem?_eq_none_iff] at hm
      simp;exact o40 len hm
  | @tup a vs n g no r hi =>
    have len:=r.length
    refine wpAny_pyNext_tuple_end (items:=vs.toArray) hh hi ⟨_,g,rfl,n,rfl⟩ ?_ fun h' he=>k h' s.toks he
    rw [List.getElem?_eq_none_iff] at hm
    simp;exact o40 len hm
  | @script a vs n g r hi =>
    have len:=r.length
    refine wpAny_pyNext_list_end (items:=vs.toArray) hh hi ⟨_,R.base _ _ g,rfl,n,rfl⟩ ?_ fun h' he=>k h' s.toks he
    rw [List.getElem?_eq_none_iff] at hm
    simp;exact o40 len hm
  | @rng n e hi =>
    subst e
    rw [List.getElem?_eq_none_iff] at hm
    simp at hm
    exact wpAny_pyNext_range_end hh hi (by exact o41 hm) fun h' he=>k h' s.toks he
  | @str x t ty e ht hs =>
    subst e
    rw [List.getElem?_eq_none_iff] at hm
    simp at hm
    have hn:x.cps[i]?=none:=by simp;assumption
    rcases ht with rfl | rfl
    · exact wpAny_pyNext_ascii_end hh hs hn fun h' he=>k h' s.toks he
    · exact wpAny_pyNext_wide_end hh hs hn fun h' he=>k h' s.toks he
end
end Mine.Internal
namespace Mine.Internal
open PySem PySem.W PyProof.Rows
noncomputable def Fu {α:Type} (lt:Nat -> Nat -> Bool) (n:Nat) (P:α -> Prop):KasT α -> Prop
  | .ret a=>P a
  | .ask i j k=>i < n /\ j < n /\ Fu lt n P (k (lt i j))
theorem Fu.bind {α β:Type} {lt:Nat -> Nat -> Bool} {n:Nat} {P:α -> Prop} {Q:β -> Prop} {f:α -> KasT β}:∀ (t:KasT α),Fu lt n P t -> (∀ a,P a -> Fu lt n Q (f a)) -> Fu lt n Q (t.bind f)
  | .ret a,h,k=>k a h
  | .ask i j g,h,k=>⟨h.1,h.2.1,Fu.bind (g (lt i j)) h.2.2 k⟩
theorem Fu.wp {α:Type} {lt:Nat -> Nat -> Bool} {n:Nat} {P:α -> Prop} {cmp:Nat -> Nat -> (Bool -> Shared -> Prop) -> Shared -> Prop} {G:α -> Shared -> Prop} {s:Shared} (hc:∀ i j C,i < n -> j < n -> C (lt i j) s -> cmp i j C s) (hG:∀ a,P a -> G a s):∀ (t:KasT α),Fu lt n P t -> t.kasWp cmp G s
  | .ret a,h=>hG a h
  | .ask i j g,h=>hc i j _ h.1 h.2.1 (Fu.wp hc hG (g (lt i j)) h.2.2)
structure Ltw (lt:Nat -> Nat -> Bool):Prop where
  asym:∀ i j,lt i j=true -> lt j i=false
  tr:∀ i j k,lt j i=false -> lt k j=false -> lt k i=false
section
variable {lt:Nat -> Nat -> Bool} {n:Nat} {p:Array Nat}
noncomputable abbrev gd (p:Array Nat) (i:Nat):Nat:=p.getD i 0
noncomputable def Asc (lt:Nat -> Nat -> Bool) (p:Array Nat) (k:Nat):Prop:=∀ i j,i < j -> j < k -> lt (gd p j) (gd p i)=false
noncomputable def Dsc (lt:Nat -> Nat -> Bool) (p:Array Nat) (k:Nat):Prop:=∀ i j,i < j -> j < k -> lt (gd p i) (gd p j)=false
noncomputable def Pn (n:Nat) (p:Array Nat):Prop:=p.Perm (List.range n).toArray
theorem Pn.size (h:Pn n p):p.size=n:=by have:=h.size_eq;simpa using this
theorem Pn.low (h:Pn n p) (h0:0 < n) (i:Nat):gd p i < n:=by
  by_cases q:i < p.size
  · have e:gd p i=p[i]:=by simp [gd,Array.getD,q]
    have m:p[i]∈(List.range n):=by
      have:=(Array.perm_iff_toList_perm.mp h).mem_iff (a:=p[i])
      simpa using this
    rw [e];simpa using m
  · have e:gd p i=0:=by simp [gd,Array.getD,q]
    exact o42 h0 e
theorem Um {q:Array Nat} {i j:Nat} (h:q[i]?=p[j]?):gd q i=gd p j:=by
  have a:∀ (r:Array Nat) (k:Nat),gd r k=(r[k]?).getD 0:=fun r k=>by simp [gd]
  rw [a,a,h]
theorem Np (h:Pn n p) (i j:Nat):Pn n (kas_rev p i j):=(mirror_perm p i j _).trans h
theorem Fu.mono {α:Type} {P Q:α -> Prop} (k:∀ a,P a -> Q a):∀ (t:KasT α),Fu lt n P t -> Fu lt n Q t
  | .ret a,h=>k a h
  | .ask i j g,h=>⟨h.1,h.2.1,Fu.mono k (g (lt i j)) h.2.2⟩
theorem Ac1 (a:Nat):∃ h,a / 2=h /\ 2 * h <= a /\ a < 2 * h+2:=⟨_,rfl,by exact o43,by exact o44⟩
theorem Agj {i j k h:Nat} (a:k < j - h) (b:i+h <= k) (c:j - i < 2 * h+2):i+j - 1 - k=k:=by exact o45 b c a
theorem Hu {i j:Nat} (hj:j <= p.size) (k:Nat):gd (kas_rev p i j) k=if i <= k /\ k < j then gd p (i+j - 1 - k) else gd p k:=by
  refine ex1 (Ac1 (j - i)) fun h zz=>As zz fun eh l1 l2=>?_
  have e:(kas_rev p i j)[k]?=if (i <= k /\ k < i+h) \/ (j - h <= k /\ k < j) then p[i+j - 1 - k]? else p[k]?:=by
    rw [<- eh] at l1 ⊢;exact getElem?_mirror (i:=i) hj ((j - i) / 2) l1 k
  by_cases q:i <= k /\ k < j
  · rw [if_pos q]
    refine Um (e.trans ?_)
    by_cases q2:(i <= k /\ k < i+h) \/ (j - h <= k /\ k < j)
    · rw [if_pos q2]
    · rw [if_neg q2,Agj (Nat.not_le.mp fun w=>q2 (.inr ⟨w,q.2⟩)) (Nat.not_lt.mp fun w=>q2 (.inl ⟨q.1,w⟩)) l2]
  · rw [if_neg q]
    refine Um (e.trans (if_neg fun w=>q ?_))
    rcases w with w | w
    · exact ⟨w.1,by clear e eh l2 q hj;exact o46 l1 w⟩
    · exact ⟨by clear e eh l2 q hj;exact o47 w l1,w.2⟩
theorem Agk (h:Pn n p) (k d:Nat):Pn n (bubble p k d):=(bubble_perm p k d).trans h
theorem Aa1 {k d:Nat} (hk:k < p.size) (hd:d <= k) (j:Nat):gd (bubble p k d) j=if j=k - d then gd p k else if k - d < j /\ j <= k then gd p (j - 1) else gd p j:=by
  have e:=getElem?_bubble hk d hd j
  by_cases q:j=k - d
  · rw [if_pos q] at e ⊢;exact Um e
  · rw [if_neg q] at e ⊢
    by_cases q2:k - d < j /\ j <= k
    · rw [if_pos q2] at e ⊢;exact Um e
    · rw [if_neg q2] at e ⊢;exact Um e
theorem Ac2 (L:Ltw lt) (hp:Pn n p) (h0:0 < n):∀ (f m:Nat),1 <= m -> Asc lt p m -> Fu lt n (fun r=>m <= r /\ r <= m+f /\ Asc lt p r /\ (r=m+f \/ lt (gd p r) (gd p (r - 1))=true)) (kas_asc p f m)
  | 0,m,h1,ha=>⟨Nat.le_refl _,Nat.le_refl _,ha,.inl rfl⟩
  | f+1,m,h1,ha=>by
    refine ⟨hp.low h0 _,hp.low h0 _,?_⟩
    cases c:lt (p.getD m 0) (p.getD (m - 1) 0) with
    | true=>exact ⟨Nat.le_refl _,by exact o48,ha,.inr c⟩
    | false =>
      have ha':Asc lt p (m+1):=fun i j hij hj=>by
        by_cases q:j=m
        · subst q
          by_cases q2:i=j - 1
          · subst q2;exact c
          · exact L.tr _ _ _ (ha i (j - 1) (by exact o49 h1 hij q2) (by exact o50 h1)) c
        · exact ha i j hij (by exact o51 hj q)
      have ih:=Ac2 L hp h0 f (m+1) (by exact o52 h1) ha'
      exact Fu.mono (fun r h=>⟨Nat.le_of_succ_le h.1,Nat.le_trans h.2.1 (Nat.le_of_eq (Nat.add_right_comm m 1 f)),h.2.2.1,h.2.2.2.imp (fun q=>q.trans (Nat.add_right_comm m 1 f)) id⟩) _ ih
noncomputable def Ac3 (lt:Nat -> Nat -> Bool) (p:Array Nat) (m q:Nat):Prop:=∀ i j,m <= i+q+1 -> i < m -> m <= j+q+1 -> j < m -> lt (gd p i) (gd p j)=false
theorem Un {m:Nat} (hz:m <= p.size) {q:Nat} (hq:q+1 <= m) (hd:Dsc lt p m) (ht:Ac3 lt p m q):Dsc lt (kas_rev p (m - (q+1)) m) m:=fun i j hij hj=>by
  rw [Hu hz,Hu hz]
  clear hz
  by_cases a:m - (q+1) <= i /\ i < m
  · rw [if_pos a,if_pos (by exact o53 a hij hj)]
    exact ht _ _ (by exact o54 a hq hij hj) (by exact o55 a hij hj) (by exact o56 hq hj) (by exact o57 a hij hj)
  · rw [if_neg a]
    by_cases b:m - (q+1) <= j /\ j < m
    · rw [if_pos b];exact hd _ _ (by exact o58 hq hij hj a) (by exact o59 b hj)
    · rw [if_neg b];exact hd _ _ hij hj
theorem Q0 (L:Ltw lt) (h0:0 < n):∀ (f:Nat) (p:Array Nat) (m q:Nat),Pn n p -> m+f <= n -> q+1 <= m -> Dsc lt p m -> Ac3 lt p m q -> Fu lt n (fun r=>Pn n r.1 /\ m <= r.2.1 /\ r.2.1 <= m+f /\ r.2.2+1 <= r.2.1 /\ Dsc lt r.1 r.2.1 /\ Ac3 lt r.1 r.2.1 r.2.2) (kas_desc f p m q)
  | 0,p,m,q,hp,hm,hq,hd,ht=>⟨hp,Nat.le_refl _,Nat.le_refl _,hq,hd,ht⟩
  | f+1,p,m,q,hp,hm,hq,hd,ht=>by
    have hz:=hp.size
    refine ⟨hp.low h0 _,hp.low h0 _,?_⟩
    have mono:∀ (t:KasT (Array Nat × Nat × Nat)),Fu lt n (fun r=>Pn n r.1 /\ m+1 <= r.2.1 /\ r.2.1 <= m+1+f /\ r.2.2+1 <= r.2.1 /\ Dsc lt r.1 r.2.1 /\ Ac3 lt r.1 r.2.1 r.2.2) t -> Fu lt n (fun r=>Pn n r.1 /\ m <= r.2.1 /\ r.2.1 <= m+(f+1) /\ r.2.2+1 <= r.2.1 /\ Dsc lt r.1 r.2.1 /\ Ac3 lt r.1 r.2.1 r.2.2) t:=Fu.mono fun r h=>⟨h.1,Nat.le_of_succ_le h.2.1,Nat.le_trans h.2.2.1 (Nat.le_of_eq (Nat.add_right_comm m 1 f)),h.2.2.2⟩
    have low:lt (gd p (m - 1)) (gd p m)=false -> ∀ i,i < m -> lt (gd p i) (gd p m)=false:=fun c i hi=>by
      by_cases e:i=m - 1
      · subst e;exact c
      · exact L.tr _ _ _ c (hd i (m - 1) (by exact o60 hi e) (by exact o61 hi))
    have one:∀ (p:Array Nat),Dsc lt p (m+1) -> Ac3 lt p (m+1) 0:=fun p hd i j h1 h2 h3 h4=>by
      have e:i=j:=by exact o62 h1 h3 h2 h4
      refine e▸?_
      cases c:lt (gd p i) (gd p i) with
      | false=>rfl
      | true=>rw [L.asym _ _ c] at c;exact nomatch c
    cases c:lt (p.getD m 0) (p.getD (m - 1) 0) with
    | true =>
      have c':=low (L.asym _ _ c)
      simp only [if_true]
      by_cases hq0:q > 0
      · rw [if_pos hq0]
        have hd':Dsc lt (kas_rev p (m - (q+1)) m) (m+1):=fun i j hij hj=>by
          by_cases e:j=m
          · subst e
            rw [Hu (by exact o63 hm hz) j,if_neg (by exact o64),Hu (by exact o63 hm hz)]
            by_cases a:j - (q+1) <= i /\ i < j
            · rw [if_pos a];exact c' _ (by exact o59 a hij)
            · rw [if_neg a];exact c' _ (by assumption)
          · exact Un (by exact o63 hm hz) hq hd ht i j hij (by exact o51 hj e)
        exact mono _ (Q0 L h0 f _ (m+1) 0 (Np hp _ _) (by exact o65 hm hz) (by exact o66) hd' (one _ hd'))
      · rw [if_neg hq0]
        have hd':Dsc lt p (m+1):=fun i j hij hj=>by
          by_cases e:j=m
          · subst e;exact c' _ hij
          · exact hd i j hij (by exact o51 hj e)
        exact mono _ (Q0 L h0 f _ (m+1) 0 hp (by exact o65 hm hz) (by exact o66) hd' (one _ hd'))
    | false =>
      simp only [Bool.false_eq_true,if_false]
      refine ⟨hp.low h0 _,hp.low h0 _,?_⟩
      cases c2:lt (p.getD (m - 1) 0) (p.getD m 0) with
      | true=>exact ⟨hp,Nat.le_refl _,Nat.le_add_right _ _,hq,hd,ht⟩
      | false =>
        simp only [Bool.false_eq_true,if_false]
        have c':=low c2
        have hd':Dsc lt p (m+1):=fun i j hij hj=>by
          by_cases e:j=m
          · subst e;exact c' _ hij
          · exact hd i j hij (by exact o51 hj e)
        refine mono _ (Q0 L h0 f _ (m+1) (q+1) hp (by exact o65 hm hz) (by exact o67 hq) hd' fun i j h1 h2 h3 h4=>?_)
        by_cases e1:i=m
        · by_cases e2:j=m
          · rw [e1,e2];exact one p hd' m m (by exact o68) (by exact o69) (by exact o68) (by exact o69)
          · rw [e1]
            have t1:=ht (m - 1) j (by exact o70 h1 h3 hq h4 e1) (by exact o71 h1 hq e1) (by exact o72 h3 e1) (by exact o73 h4 e1 e2)
            exact L.tr _ _ _ t1 c
        · by_cases e2:j=m
          · rw [e2];exact c' i (by exact o73 h2 e2 e1)
          · exact ht i j (by exact o74 h1) (by exact o75 h2 h4 e1 e2) (by exact o74 h3) (by exact o51 h4 e2)
noncomputable def Cnt (lt:Nat -> Nat -> Bool) (n:Nat) (r:Nat × Array Nat):Prop:=Pn n r.2 /\ 1 <= r.1 /\ r.1 <= n /\ Asc lt r.2 r.1
theorem Uo (L:Ltw lt) (hp:Pn n p) (m:Nat) (h1:1 <= m) (hm:m <= n) (hd:Dsc lt p m):Fu lt n (Cnt lt n) (kas_tail3 m n p):=by
  have ha:Asc lt (kas_rev p 0 m) m:=fun i j hij hj=>by
    rw [Hu (by rw [hp.size];exact hm),Hu (by rw [hp.size];exact hm),if_pos (by exact o76 hj),if_pos (by exact o77 hij hj)]
    exact hd _ _ (by exact o78 hij hj) (by exact o79 hij hj)
  exact Fu.bind _ (Ac2 L (Np hp 0 m) (by exact o80 h1 hm) (n - m) m h1 ha) fun r hr=>⟨Np hp 0 m,Nat.le_trans h1 hr.1,Nat.le_trans hr.2.1 (Nat.le_of_eq (Nat.add_sub_cancel' hm)),hr.2.2.1⟩
theorem Lb (L:Ltw lt) (hp:Pn n p) (m:Nat) (h1:1 <= m) (hm:m+1 <= n) (hd:Dsc lt p (m+1)):Fu lt n (Cnt lt n) (kas_descPart m n p):=by
  have t0:Ac3 lt p (m+1) 0:=fun i j h1 h2 h3 h4=>by
    have e:i=j:=by exact o62 h1 h3 h2 h4
    refine e▸?_
    cases c:lt (gd p i) (gd p i) with
    | false=>rfl
    | true=>rw [L.asym _ _ c] at c;exact nomatch c
  refine Fu.bind _ (Q0 L (by exact o81 hm h1) (n - (m+1)) p (m+1) 0 hp (by exact o82 hm) (by exact o83 h1) hd t0) fun r hr=>?_
  refine Kp hr fun a1 a2 a3 a4 a5 a6=>?_
  by_cases q:r.2.2 > 0
  · rw [if_pos q]
    exact Uo L (Np a1 _ _) _ (by exact o84 a4 q) (by exact o85 hm a3) (Un (by rw [a1.size];exact o85 hm a3) a4 a5 a6)
  · rw [if_neg q]
    exact Uo L a1 _ (by exact o86 a4 q) (by exact o85 hm a3) a5
theorem Ac4 (L:Ltw lt) (hp:Pn n p) (h0:0 < n):Fu lt n (Cnt lt n) (kas_count n p):=by
  refine Fu.bind _ (Ac2 L hp h0 (n - 1) 1 (Nat.le_refl _) fun i j hij hj=>by exact (o87 hj hij).elim) fun m hm=>?_
  refine By hm fun a1 a2 a3 a4=>?_
  rw [Nat.add_sub_cancel' (show 1 <= n from h0)] at a2 a4
  by_cases e:(m == n)=true
  · rw [if_pos e];exact ⟨hp,a1,a2,a3⟩
  · rw [if_neg e]
    have e':m≠n:=fun q=>e (by rw [q];exact beq_self_eq_true _)
    have c:lt (gd p m) (gd p (m - 1))=true:=a4.resolve_left e'
    have mn:m < n:=Nat.lt_of_le_of_ne a2 e'
    clear a2 a4 e e'
    have low:∀ i,i < m -> (∀ i j,i < m -> j < m -> lt (gd p i) (gd p j)=false) -> lt (gd p i) (gd p m)=false:=fun i hi al=>L.tr _ _ _ (L.asym _ _ c) (al i (m - 1) hi (by exact o50 a1))
    by_cases q:m > 1
    · rw [if_pos q]
      refine ⟨hp.low h0 _,hp.low h0 _,?_⟩
      cases c2:lt (p.getD 0 0) (p.getD (m - 1) 0) with
      | true=>exact ⟨hp,a1,Nat.le_of_lt mn,a3⟩
      | false =>
        simp only [Bool.false_eq_true,if_false]
        have top:∀ i,i < m -> lt (gd p (m - 1)) (gd p i)=false:=fun i hi=>by
          by_cases w:i=m - 1
          · subst w
            cases c3:lt (gd p (m - 1)) (gd p (m - 1)) with
            | false=>rfl
            | true=>rw [L.asym _ _ c3] at c3;exact nomatch c3
          · exact a3 i (m - 1) (by exact o88 hi q w) (by exact o89 q)
        have bot:∀ i,i < m -> lt (gd p i) (gd p 0)=false:=fun i hi=>by
          by_cases w:i=0
          · subst w
            cases c3:lt (gd p 0) (gd p 0) with
            | false=>rfl
            | true=>rw [L.asym _ _ c3] at c3;cases c3
          · exact a3 0 i (by exact o90 w) hi
        have al:∀ i j,i < m -> j < m -> lt (gd p i) (gd p j)=false:=fun i j hi hj=>L.tr _ _ _ (L.tr _ _ _ (top j hj) c2) (bot i hi)
        refine Lb L (Np hp 0 m) m a1 mn fun i j hij hj=>?_
        have hz:m <= p.size:=by rw [hp.size];exact Nat.le_of_lt mn
        rw [Hu hz,Hu hz]
        clear hz mn h0 q a1
        by_cases w:j=m
        · rw [if_neg (show ¬ (0 <= j /\ j < m) by exact o91 w),if_pos (show 0 <= i /\ i < m by exact o92 hij w),w]
          exact low _ (by exact o93 hij w) al
        · rw [if_pos (show 0 <= j /\ j < m by exact o94 hj w),if_pos (show 0 <= i /\ i < m by exact o95 hj hij)]
          exact al _ _ (by exact o96 hj hij) (by exact o97 hj hij)
    · rw [if_neg q]
      have m1:m=1:=by exact o98 a1 q
      subst m1
      refine Lb L hp 1 (Nat.le_refl _) (by exact o99 mn) fun i j hij hj=>?_
      have:i=0 /\ j=1:=by exact Ald hj hij
      rw [this.1,this.2]
      exact L.asym _ _ c
theorem Pm (L:Ltw lt) (hp:Pn n p) (h0:0 < n) {k:Nat} (ha:Asc lt p k):∀ (f l r:Nat),l <= r -> r <= k -> r <= l+f -> (∀ i,i < l -> lt (gd p k) (gd p i)=false) -> (∀ i,r <= i -> i < k -> lt (gd p k) (gd p i)=true) ->
    Fu lt n (fun q=>q <= k /\ (∀ i,i < q -> lt (gd p k) (gd p i)=false) /\ ∀ i,q <= i -> i < k -> lt (gd p k) (gd p i)=true) (kas_place p k f l r)
  | 0,l,r,h1,h2,h3,h4,h5=>⟨by exact Ale h3 h1 h2,h4,fun i hi hk=>h5 i (by exact Alf h3 h1 hi) hk⟩
  | f+1,l,r,h1,h2,h3,h4,h5=>by
    unfold kas_place
    by_cases q:l ≥ r
    · rw [if_pos q];exact ⟨by exact Alg h1 h2 q,h4,fun i hi hk=>h5 i (by exact Alh h1 hi q) hk⟩
    · rw [if_neg q]
      refine ⟨hp.low h0 _,hp.low h0 _,?_⟩
      cases c:lt (p.getD k 0) (p.getD ((l+r) / 2) 0) with
      | true =>
        simp only [if_true]
        refine Pm L hp h0 ha f l _ (by exact Ali q) (by exact Alj h2 q) (by exact Alk h3) h4 fun i hi hk=>?_
        by_cases e:i=(l+r) / 2
        · rw [e];exact c
        · cases c2:lt (gd p k) (gd p i) with
          | true=>rfl
          | false =>
            have:=L.tr _ _ _ (ha ((l+r) / 2) i (by exact Alm hi e) hk) c2
            rw [show lt (gd p k) (gd p ((l+r) / 2))=true from c] at this
            exact nomatch this
      | false =>
        simp only [Bool.false_eq_true,if_false]
        refine Pm L hp h0 ha f _ r (by exact Aln q) h2 (by exact Alo h3) (fun i hi=>?_) h5
        by_cases e:i=(l+r) / 2
        · rw [e];exact c
        · exact L.tr _ _ _ (ha i ((l+r) / 2) (by exact Alp hi e) (by exact Alq h2 q)) c
theorem Agl (L:Ltw lt) (h0:0 < n):∀ (f:Nat) (p:Array Nat) (k:Nat),Pn n p -> k+f=n -> Asc lt p k -> Fu lt n (fun q=>Pn n q /\ Asc lt q n) (kas_bin f p k)
  | 0,p,k,hp,hk,ha=>by
    have:k=n:=by assumption
    exact ⟨hp,this▸ha⟩
  | f+1,p,k,hp,hk,ha=>by
    refine Fu.bind _ (Pm L hp h0 ha k 0 k (Nat.zero_le _) (Nat.le_refl _) (by exact Alr) (fun i hi=>by exact (Als hi).elim) fun i h1 h2=>by exact (Alt h2 h1).elim) fun l hl=>?_
    refine As hl fun b1 b2 b3=>?_
    refine Agl L h0 f _ (k+1) (Agk hp _ _) (by exact Alu hk) fun i j hij hj=>?_
    have hz:k < p.size:=by rw [hp.size];exact Alv hk
    rw [Aa1 hz (by exact Ajm b1),Aa1 hz (by exact Ajm b1)]
    have e:k - (k - l)=l:=by exact Alw b1
    rw [e]
    clear e hz h0 hk
    by_cases x1:i=l
    · rw [if_pos x1,if_neg (by exact Ajn hij x1),if_pos (by exact Alx hj hij x1)]
      exact L.asym _ _ (b3 (j - 1) (by exact Ajo hij x1) (by exact Ah7 hj hij))
    · rw [if_neg x1]
      by_cases x2:j=l
      · rw [if_pos x2,if_neg (by exact Aly hij x2)]
        exact b2 i (by exact Ajp hij x2)
      · rw [if_neg x2]
        by_cases y1:l < i /\ i <= k
        · rw [if_pos y1,if_pos (by exact Alz y1 hj hij)];exact ha _ _ (by exact Al0 y1 hij) (by exact Ah7 hj hij)
        · rw [if_neg y1]
          by_cases y2:l < j /\ j <= k
          · rw [if_pos y2];exact ha _ _ (by exact Al1 y2 hj hij y1 x1 x2) (by exact Ah7 hj hij)
          · rw [if_neg y2];exact ha _ _ hij (by exact Al2 hj hij b1 y1 y2 x2)
theorem Aa2 (L:Ltw lt) (h0:0 < n):Fu lt n (fun q=>Pn n q /\ Asc lt q n) (kas_sort n):=by
  refine Fu.bind _ (Ac4 L (Array.Perm.refl _) h0) fun r hr=>?_
  refine By hr fun a1 a2 a3 a4=>?_
  by_cases q:r.1 < n
  · rw [if_pos q]
    have e:max r.1 1=r.1:=by exact Al3 a2
    rw [e]
    exact Agl L h0 _ _ _ a1 (by exact Al4 e q) a4
  · rw [if_neg q]
    have e:r.1=n:=by exact Ajq a3 q
    exact ⟨a1,e▸a4⟩
end
end Mine.Internal
namespace Mine.Internal
open PySem PySem.W PySem.Calls PyProof.Rows
section
variable {prog:Program} {w:World} {A:Around} {E:Value -> Shared -> Prop} {s:Shared} {it d:Addr} {es:Array DictEntry} {ep:Nat}
structure RawD (h:Heap) (d:Addr) (es:Array DictEntry) (ep:Nat):Prop where
  ex:∃ o,h.get? d=some o /\ o.ExactDict /\ o.data=.dict es ep
theorem RawD.type (x:RawD s.heap d es ep):s.TypeIs (.ref d) "dict":=let ⟨o,ho,hc,_⟩:=x.ex;⟨o,ho,hc.1⟩
theorem RawD.at {h h':Heap} (x:RawD h d es ep) (e:∀ o,h.get? d=some o -> h'.get? d=some o):RawD h' d es ep:=let ⟨o,ho,r⟩:=x.ex;⟨o,e o ho,r⟩
theorem RawD.lt {h:Heap} (x:RawD h d es ep):d < h.objs.size:=let ⟨_,ho,_⟩:=x.ex;Heap.lt_size ho
end
section
variable {cx:Cx} {A:Around} {xs:List Val} {ρ:Rho} {H:Hp} {s:Shared}
end
end Mine.Internal
namespace Mine.Internal
open PySem PySem.W PyProof.Rows
section
variable {cx:Cx} {A:Around} {P:Amb} {xs:List Val} {ρ:Rho} {H:Hp} {s:Shared}
theorem Yu (vs:List Value) (h:vs.length < 2):(vs.toArray.zip vs.toArray).map (·.2)=List.toArray ((List.range vs.length).toArray.toList.map fun i=>vs.getD i Value.none):=by
  apply Array.toList_inj.mp
  cases vs with
  | nil=>simp
  | cons v l =>
    cases l with
    | nil=>simp [List.range_succ]
    | cons _ _=>exact absurd h (by simp)
set_option backward.match.sparseCases true in
theorem Ac5 {prog:Program} {w:World} {a:Addr} {vs:List Value} {n:Nat} {P:PySem.Fin -> Shared -> Prop} {E:Value -> Shared -> Prop} {G:Array Nat -> Prop} (ho:s.heap.get? a=some (A8 vs n)) (h64:vs.length < 64)
    (small:vs.length < 2 -> G (List.range vs.length).toArray)
    (ask:∀ h',(∀ b o,b≠a -> s.heap.get? b=some o -> h'.get? b=some o) -> 2 <= vs.length -> ∀ (Q:SortKind -> Shared -> Prop),(∀ κ,(∀ (R:Array Nat -> Shared -> Prop),(∀ p,G p -> R p { s with heap:=h' }) -> (kas_sort vs.length).kasWp (kas_ask prog w A κ vs) R { s with heap:=h' }) -> Q κ { s with heap:=h' }) -> wpAny (model prog w) A (keyKind' vs.toArray) Q E { s with heap:=h' })
    (k:∀ h' p c,G p -> (∀ b o,b≠a -> s.heap.get? b=some o -> h'.get? b=some o) -> h'.get? a=some (A8 (p.toList.map fun i=>vs.getD i .none) c) -> P (.done (.ret .none)) { s with heap:=h' }) :
    wpAny (model prog w) A (Builtin.«list.sort» ⟨[.ref a],[]⟩) P E s:=by
  have ha:a < s.heap.objs.size:=Heap.lt_size ho
  have s1:=Heap.SameBut.update s.heap a (Obj.mapSeq fun _=>(#[]:Array Value))
  obtain ⟨e1,ho1⟩:∃ e1,(s.heap.update a (Obj.mapSeq fun _=>(#[]:Array Value))).get? a=some (A8 [] e1):=⟨_,get?_update_seq ho fun _=>#[]⟩
  have kp:∀ b o,b≠a -> s.heap.get? b=some o -> (((s.heap.update a (Obj.mapSeq fun _=>(#[]:Array Value))).push (seqObj "tuple" vs.toArray 0)).push (seqObj "list" #[] 0)).get? b=some o:=fun b o nb e=>Heap.get?_push_of_some _ (Heap.get?_push_of_some _ (s1.extBut b o nb e))
  have g1:(((s.heap.update a (Obj.mapSeq fun _=>(#[]:Array Value))).push (seqObj "tuple" vs.toArray 0)).push (seqObj "list" #[] 0)).get? a=some (A8 [] e1):=Heap.get?_push_of_some _ (Heap.get?_push_of_some _ ho1)
  generalize hh:((s.heap.update a (Obj.mapSeq fun _=>(#[]:Array Value))).push (seqObj "tuple" vs.toArray 0)).push (seqObj "list" #[] 0)=h1 at kp g1
  have last:∀ (p:Array Nat) (st':SortSt),G p -> p.size=vs.length -> (arrOf st').map (·.2)=List.toArray (p.toList.map fun i=>vs.getD i Value.none) -> failedOf st'=none -> wpAny (model prog w) A (do
      let sorted:=(arrOf st').map (·.2)
      let touched:=(<- seqEpoch a) != e1
      Builtin.List.listUpdate (.ref a) fun _=>sorted
      if let some e:=failedOf st' then rule "list.sort.comparison-raised";throw e
      if touched then rule "list.sort.modified";raiseError "ValueError" "list modified during sort"
      ret .none) P E { s with heap:=h1 }:=by
    intro p st' hG hp hout hf
    rw [hout]
    dsimp only
    refine wpAny_bind (seqEpoch_at g1 rfl ?_)
    have hsz:(List.toArray (p.toList.map fun i=>vs.getD i Value.none)).size=vs.length:=by rw [List.size_toArray,List.length_map,Array.length_toList,hp]
    refine wpAny_bind (listUpdate_at g1 rfl ?_ (Nat.zero_le _) (Nat.le_trans (Nat.le_of_eq hsz) (by rw [sizeLine_eq];exact Al5 h64 hp hsz)))
    rw [hf]
    simp only [bne_self_eq_false,Bool.false_eq_true,if_false]
    refine wpAny_pure (k _ p _ hG (fun b o nb e=>(Heap.get?_update_other _ _ (Ne.symm nb)).trans (kp b o nb e)) (get?_update_seq g1 fun _=>List.toArray (p.toList.map fun i=>vs.getD i Value.none)))
  rw [list_sort_plain]
  refine wpAny_bind (listItems_at ho rfl ?_)
  refine wpAny_bind (listUpdate_at ho rfl ?_ (by rw [List.size_toArray,sizeLine_eq];exact Ajr h64) (Nat.zero_le _))
  refine wpAny_bind (seqEpoch_at ho1 rfl ?_)
  refine wpAny_bind (wpAny_newTuple ?_ (by show vs.length <= _;rw [sizeLine_eq];exact Ajr h64))
  refine wpAny_bind (wpAny_newList ?_ (Nat.zero_le _))
  refine wpAny_holding ?_
  show wpAny (model prog w) A _ P E { s with heap:=((s.heap.update a (Obj.mapSeq fun _=>(#[]:Array Value))).push (seqObj "tuple" vs.toArray 0)).push (seqObj "list" #[] 0) }
  rw [hh]
  dsimp only
  by_cases h2:vs.toArray.size < 2
  · rw [if_pos h2,if_pos h2]
    rw [List.size_toArray] at h2
    refine wpAny_bind (wpAny_pure ?_)
    refine wpAny_bind (wpAny_pure ?_)
    refine last (List.range vs.length).toArray _ (small h2) (by simp) ?_ rfl
    exact Yu vs h2
  · rw [if_neg h2,if_neg h2]
    have h2':2 <= vs.length:=by rw [List.size_toArray] at h2;exact Al6 h64 h2
    refine wpAny_bind (ask h1 kp h2' _ fun κ hk=>?_)
    refine wpAny_bind (wpAny_mono (kat_run (Q:=fun st' s'=>s'={ s with heap:=h1 } /\ ∃ p:Array Nat,p.size=vs.length /\ G p /\ arrOf st'=p.map (kas_item (vs.toArray.zip vs.toArray)) /\ failedOf st'=none) (G:=fun p s'=>s'={ s with heap:=h1 } /\ G p) rfl h2' h64
      (fun p' st' s' a1 a2 a3 a4=>⟨a4.1,p',a1,a4.2,a2,a3⟩) (hk _ fun p hp=>⟨rfl,hp⟩)) ?_ fun _ _ e=>e)
    rintro ⟨⟨⟩,st'⟩ s' ⟨rfl,p,hp,hG,har,hf⟩
    exact last p st' hG hp (kat_snds rfl har) hf
theorem Ac6 (R:Rel cx H ρ s) {Q:Bool -> Shared -> Prop} {k:Nat} (hk:A.units+20+k < cLine) {r:Bool} (hQ:Q r s) (ms:List Val):∀ (ks:List Val) (vs ws:List Value) (i:Nat),VRs cx ρ s.heap ms vs -> VRs cx ρ s.heap ks ws -> lts (Ev []) (Qm k) ms ks=some r ->
    (i=0 -> ∃ x y ms' ks',ms=.int x :: ms' /\ ks=.int y :: ks') -> KatLex cx.prog cx.w A true (decide (i+ms.length < i+ks.length)) Q (vs.zip ws) i s:=by
  induction ms with
  | nil =>
    intro ks vs ws i q1 q2 h _
    cases q1
    cases ks with
    | nil =>
      cases h
      rw [decide_eq_false (Nat.lt_irrefl _)];exact hQ
    | cons y ks =>
      cases h
      have:decide (i+([]:List Val).length < i+(y :: ks).length)=true:=decide_eq_true (Nat.lt_add_of_pos_right (Nat.succ_pos _))
      rw [this];exact hQ
  | cons x ms ih =>
    intro ks vs ws i q1 q2 h hi
    cases q1 with
    | cons a1 q1 =>
      cases q2 with
      | nil =>
        cases h
        have:decide (i+(x :: ms).length < i+([]:List Val).length)=false:=decide_eq_false (Nat.not_lt.mpr (Nat.le_add_right i _))
        rw [this];exact hQ
      | @cons y _ ks _ a2 q2 =>
        refine kat_cons ?_
        rcases Qq h with ⟨he,hl⟩ | ⟨he,hl⟩
        · refine Gj R a1 a2 (Qt he) (by exact Ajs hk) ?_
          refine kat_yes ?_
          have:=ih ks _ _ (i+1) q1 q2 hl (fun q=>absurd q (Nat.succ_ne_zero _))
          rw [Nat.add_right_comm i 1,Nat.add_right_comm i 1] at this
          exact this
        · refine Gj R a1 a2 (Qt he) (by exact Ajs hk) ?_
          refine kat_no ?_
          by_cases q:i=0
          · refine ex4 (hi q) fun u v _ _ zz=>Ac zz fun e1 e2=>?_
            cases e1;cases e2
            obtain ⟨t,hr0⟩:=a1.int_inv;refine Eq.symm hr0▸?_
            obtain ⟨t',hr1⟩:=a2.int_inv;refine Eq.symm hr1▸?_
            refine Eq.symm q▸?_
            have hr:r=decide (u < v):=by
              cases k with
              | zero=>cases hl
              | succ k=>exact (Option.some.inj hl).symm
            exact oneLt_int (by rw [<- hr];exact hQ)
          · rw [show (true && i == 0)=false by simp [q]]
            exact kat_one _ _ (T7 R k A _ _ _ _ r _ _ a1 a2 hl (by assumption) hQ)
theorem VRs.getD {h:Heap} {ms:List Val} {vs:List Value} (r:VRs cx ρ h ms vs) {i:Nat} (hi:i < ms.length):VR cx ρ h (ms.getD i .none) (vs.getD i .none):=by
  have e:ms[i]?=some ms[i]:=List.getElem?_eq_getElem hi
  refine ex1 (r.get e) fun v zz=>Ac zz fun hv x=>?_
  rw [List.getD_eq_getElem?_getD,List.getD_eq_getElem?_getD,e,hv]
  exact x
theorem Up {h:Heap}:∀ {ms:List Val} {vs:List Value},VRs cx ρ h ms vs -> (∀ x∈ms,∃ i r,x=.tup (.int i :: r)) -> ∃ fs,KatTups h vs fs /\ fs.length=vs.length /\ ∀ f∈fs,∃ i t,f=.int i t
  | _,_,.nil,_=>⟨[],trivial,rfl,fun f hf=>by cases hf⟩
  | _,_,.cons a r,hm=>by
    refine Ah fun G kG=>?_
    refine ex1 (Up r fun x hx=>hm x (.tail _ hx)) fun fs zz=>As zz fun h1 h2 h3=>?_
    refine ex2 (hm _ (.head _)) fun i q zr2=>?_;subst zr2
    refine ex3 a.tup_inv fun p vs n zz=>As zz fun zr3 g r=>?_;subst zr3
    refine kG ?_
    cases r with
    | cons b r =>
      obtain ⟨t,rfl⟩:=b.int_inv
      refine ⟨.int i t :: fs,KatTups.cons g rfl rfl (by simp) h1,by simp [h2],fun f hf=>?_⟩
      cases hf with
      | head=>exact ⟨i,t,rfl⟩
      | tail _ hf=>exact h3 f hf
theorem Uq {h:Heap}:∀ {ms:List Val} {vs:List Value},VRs cx ρ h ms vs -> (∀ x∈ms,∃ i,x=.int i) -> ∃ ns,IntsAre vs ns
  | _,_,.nil,_=>⟨[],.nil⟩
  | _,_,.cons a r,hm=>by
    obtain ⟨ns,h1⟩:=Uq r fun x hx=>hm x (.tail _ hx)
    obtain ⟨i,rfl⟩:=hm _ (.head _)
    obtain ⟨t,rfl⟩:=a.int_inv
    exact ⟨i :: ns,.cons i t h1⟩
noncomputable def ix (n i:Nat):Nat:=if i < n then i else 0
theorem Ai5 {n:Nat} (h0:0 < n) (i:Nat):ix n i < n:=by unfold ix;split <;> assumption
theorem Agm {lt:Val -> Val -> Bool} (O:Order xs lt) (h0:0 < xs.length):Ltw fun i j=>lt (xs.getD (ix xs.length i) .none) (xs.getD (ix xs.length j) .none):=by
  have m:∀ i,xs.getD (ix xs.length i) .none∈xs:=fun i=>by
    rw [List.getD_eq_getElem?_getD,List.getElem?_eq_getElem (Ai5 h0 i)]
    exact List.getElem_mem _
  exact ⟨fun i j=>O.asym _ (m i) _ (m j),fun i j k=>O.tr _ (m i) _ (m j) _ (m k)⟩
theorem Q1 {h:Heap} {ms:List Val} {vs:List Value} (r:VRs cx ρ h ms vs):∀ (l:List Nat),(∀ i∈l,i < ms.length) -> VRs cx ρ h (l.map fun i=>ms.getD i .none) (l.map fun i=>vs.getD i .none)
  | [],_=>.nil
  | i :: l,hl=>.cons (r.getD (hl i (.head _))) (Q1 r l fun j hj=>hl j (.tail _ hj))
theorem Po {lt:Val -> Val -> Bool} (O:Order xs lt) {p:Array Nat} (hp:Pn xs.length p) (ha:Asc (fun i j=>lt (xs.getD (ix xs.length i) .none) (xs.getD (ix xs.length j) .none)) p xs.length):Ge xs (p.toList.map fun i=>xs.getD i .none):=by
  have hp':=Array.perm_iff_toList_perm.mp hp
  have e:(List.range xs.length).map (fun i=>xs.getD i Val.none)=xs:=by
    apply List.ext_getElem?
    intro k
    rw [List.getElem?_map]
    by_cases q:k < xs.length
    · rw [List.getElem?_range q]
      simp [q]
    · rw [List.getElem?_eq_none (by simpa using q),List.getElem?_eq_none (by simpa using q)];rfl
  have lo:∀ i∈p.toList,i < xs.length:=fun i hi=>by
    have:=hp'.mem_iff.mp hi
    simpa using this
  refine ⟨?_,?_⟩
  · have:=hp'.map (fun i=>xs.getD i Val.none)
    rwa [show (List.range xs.length).toArray.toList=List.range xs.length from rfl,e] at this
  · rw [List.pairwise_map]
    rw [List.pairwise_iff_getElem]
    intro i j hi hj hij
    have zi:i < p.size:=by simpa using hi
    have zj:j < p.size:=by simpa using hj
    have hs:=hp.size
    have a:=ha i j hij (by exact Ajp zj hs)
    have ei:gd p i=p.toList[i]:=by simp [gd,Array.getD,zi]
    have ej:gd p j=p.toList[j]:=by simp [gd,Array.getD,zj]
    dsimp only at a
    rw [ei,ej] at a
    have li:=lo _ (List.getElem_mem hi)
    have lj:=lo _ (List.getElem_mem hj)
    unfold ix at a
    rw [if_pos li,if_pos lj] at a
    have m:∀ k,k < xs.length -> xs.getD k .none∈xs:=fun k hk=>by
      rw [List.getD_eq_getElem?_getD,List.getElem?_eq_getElem hk]
      exact List.getElem_mem _
    rw [O.is _ (m _ lj) _ (m _ li),a]
theorem Pp {p:Addr} {H:Hp} {ρ:Rho} {s0:Shared} {ys:List Val} (hh:A.handled=none) (hu:A.units+100 < cLine) (R0:Rel cx H ρ s0)
    (hc:∀ (E:Value -> Shared -> Prop) (Q:List Value -> Shared -> Prop),(∀ h' tk xs vs,(∀ b o,s0.heap.get? b=some o -> h'.get? b=some o) -> VRs cx ρ h' xs vs -> Ey xs=some ys -> Q vs { s0 with heap:=h',toks:=tk }) -> wpAny (model cx.prog cx.w) A.in1 (collect (.ref p)) Q E s0) :
    Ay cx A (M.alloc (.list ys) H) (call (.builtin "sorted") [.ref p]) (Amb.vr cx) ρ s0:=by
  refine (show wpAny _ _ _ _ _ _ from ?_)
  refine Calls.call_function_entry kind_sorted plain_sorted entry_sorted (args_sorted1 _) ?_
  unfold Builtin.«sorted»
  refine wpAny_bind (m:=checkCount "sorted" 1 1 _) (wpAny_pure ?_)
  refine wpAny_bind (hc _ _ fun h1' tk xs vs kp0 r hs=>?_)
  refine Ah fun G kG=>?_
  obtain ⟨⟨few,kind,lt,O⟩,srt⟩:=I5 hs
  refine kG ?_
  have R:Rel cx H ρ { s0 with heap:=h1',toks:=tk }:=R0.more (tk:=tk) kp0
  have F0:Full ρ s0.heap ρ h1':=Full.more kp0
  generalize hs1:({ s0 with heap:=h1',toks:=tk }:Shared)=s at R
  have F1:Full ρ s0.heap ρ s.heap:=by rw [<- hs1];exact F0
  have r:VRs cx ρ s.heap xs vs:=by rw [<- hs1];exact r
  clear F0 kp0 hs1
  have len:=r.length
  have few':vs.length < 64:=by exact Al7 few len
  refine wpAny_bind (wpAny_newList ?_ (by rw [sizeLine_eq];exact Al8 few len))
  have hoL:(s.heap.push (seqObj "list" vs.toArray 0)).get? s.heap.objs.size=some (A8 vs 0):=Heap.get?_push_size _ rfl
  have keep:∀ b o,s.heap.get? b=some o -> (s.heap.push (seqObj "list" vs.toArray 0)).get? b=some o:=fun b o q=>Heap.get?_push_of_some _ q
  show wpAny _ _ _ _ _ { s with heap:=s.heap.push (seqObj "list" vs.toArray 0) }
  generalize s.heap.push (seqObj "list" vs.toArray 0)=h0 at hoL keep
  have fr:s.heap.get? s.heap.objs.size=none:=Ap _
  have ne:∀ {b:Addr} {o:Obj},s.heap.get? b=some o -> b≠s.heap.objs.size:=fun {b o} e w=>by rw [w,fr] at e;exact nomatch e
  refine wpAny_bind (wpAny_holding (wpAny_call_entry slot_list_sort ⟨_,hoL,rfl⟩ entry_list_sort ?body (args_list_sort _)))
  refine Ac5 (s:={ s with heap:=h0 }) (G:=fun p=>Pn xs.length p /\ Asc (fun i j=>lt (xs.getD (ix xs.length i) .none) (xs.getD (ix xs.length j) .none)) p xs.length) hoL few' (fun h2=>?_) (fun h' kp h2 Q kQ=>?_) fun h' p c hG kp e=>?_
  · rw [<- len]
    exact ⟨Array.Perm.refl _,fun i j hij hj=>by exact (Al9 h2 few hij hj len).elim⟩
  · have kp':∀ b o,s.heap.get? b=some o -> h'.get? b=some o:=fun b o e=>kp b o (ne e) (keep b o e)
    have R':Rel cx H ρ { s with heap:=h' }:=R.more (tk:=s.toks) kp'
    have r':VRs cx ρ h' xs vs:=r.step (Full.more kp').step
    have L:=Agm O (by exact Ajt h2 few len)
    have hu2:A.in1.in1.units+30 < cLine:=by simp only [Around.in1_units];exact Ama hu
    have val:∀ i,i < xs.length -> xs.getD (ix xs.length i) Val.none=xs.getD i .none /\ xs.getD i .none∈xs:=fun i hi=>by
      refine ⟨by unfold ix;rw [if_pos hi],?_⟩
      rw [List.getD_eq_getElem?_getD,List.getElem?_eq_getElem hi]
      exact List.getElem_mem _
    rcases kind with kind | kind
    · obtain ⟨ns,hI⟩:=Uq r' kind
      have ek:keyKind' vs.toArray=pure oneType':=by
        match vs,h2,hI with
        | v1 :: v2 :: rest,_,hI=>exact keyKind_ints hI
      rw [ek]
      refine wpAny_pure (kQ _ fun R2 hR2=>?_)
      rw [<- len]
      refine Fu.wp (lt:=fun i j=>lt (xs.getD (ix xs.length i) .none) (xs.getD (ix xs.length j) .none)) (fun i j C hi hj hC=>?_) hR2 _ (Aa2 L (by exact Ajt h2 few len))
      obtain ⟨e1,m1⟩:=val i hi
      obtain ⟨e2,m2⟩:=val j hj
      dsimp only at hC
      rw [e1,e2] at hC
      have w1:=r'.getD hi
      have w2:=r'.getD hj
      have is:=O.is _ m1 _ m2
      obtain ⟨x,hx⟩:=kind _ m1
      obtain ⟨y,hy⟩:=kind _ m2
      rw [hx] at w1 is hC
      rw [hy] at w2 is hC
      obtain ⟨t,ht⟩:=w1.int_inv
      obtain ⟨t',ht'⟩:=w2.int_inv
      show wpAny _ _ (keyLt' oneType' (vs.getD i .none) (vs.getD j .none)) _ _ _
      rw [ht,ht']
      refine oneLt_int ?_
      have:lt (.int x) (.int y)=decide (x < y):=(Option.some.inj is).symm
      rw [<- this];exact hC
    · refine Ah fun G kG=>?_
      refine ex1 (Up r' kind) fun fs zz=>As zz fun hT hl2 hfs=>?_
      refine kG ?_
      refine kat_kind (s:={ s with heap:=h' }) (T:=.type "int") hT (by exact Amc h2 few len hl2) (fun f hf=>?_) rfl ?_
      · refine ex2 (hfs f hf) fun i t zr2=>?_;subst zr2
        exact .now
      · skip
        refine kQ _ fun R2 hR2=>?_
        rw [<- len]
        refine Fu.wp (lt:=fun i j=>lt (xs.getD (ix xs.length i) .none) (xs.getD (ix xs.length j) .none)) (fun i j C hi hj hC=>?_) hR2 _ (Aa2 L (by exact Amd h2 few len hl2))
        obtain ⟨e1,m1⟩:=val i hi
        obtain ⟨e2,m2⟩:=val j hj
        dsimp only at hC
        rw [e1,e2] at hC
        have w1:=r'.getD hi
        have w2:=r'.getD hj
        have is:=O.is _ m1 _ m2
        refine Ah fun G kG=>?_
        refine ex2 (kind _ m1) fun x ms hx=>?_
        refine ex2 (kind _ m2) fun y ks hy=>?_
        refine kG ?_
        rw [hx] at w1 is hC
        rw [hy] at w2 is hC
        refine Ah fun G kG=>?_
        refine ex3 w1.tup_inv fun p1 us n1 zz=>As zz fun ht g1 q1=>?_
        refine ex3 w2.tup_inv fun p2 ws n2 zz=>As zz fun ht' g2 q2=>?_
        refine kG ?_
        show wpAny _ _ (keyLt' (tuples' true) (vs.getD i .none) (vs.getD j .none)) _ _ _
        rw [ht,ht']
        refine kat_lt (s:={ s with heap:=h' }) g1 rfl g2 rfl ?_
        have kl:=Ac6 (A:=A.in1.in1) R' (k:=5) (by exact Ame hu2) hC _ _ _ _ 0 q1 q2 is (fun _=>⟨x,y,ms,ks,rfl,rfl⟩)
        rw [Nat.zero_add,Nat.zero_add,q1.length,q2.length] at kl
        simpa using kl
  · refine ⟨_,rfl,wpAny_pure ⟨_,rfl,?_⟩⟩
    have kp':∀ b o,s.heap.get? b=some o -> h'.get? b=some o:=fun b o e=>kp b o (ne e) (keep b o e)
    have eq:ys=p.toList.map fun i=>xs.getD i .none:=Option.some.inj (hs.symm.trans (I4 ⟨few,kind,lt,O⟩ (Po O hG.1 hG.2)))
    have lo:∀ i∈p.toList,i < xs.length:=fun i hi=>by
      have:=(Array.perm_iff_toList_perm.mp hG.1).mem_iff.mp hi
      simpa using this
    have yl:ys.length <= sizeLine:=by rw [srt.1.length_eq,sizeLine_eq];exact Amf few len
    obtain ⟨F,R'⟩:=R.alloc (tk:=s.toks) (o:=.list ys) (p:=(s.heap.objs.size,s.heap.objs.size)) kp' ⟨fr,fr⟩
      (.list e (by rw [eq];exact Q1 (r.step (Full.alloc kp' ⟨fr,fr⟩).step) _ lo) yl)
    refine ⟨_,F1.trans F,R',?_⟩
    rw [R.len]
    exact VR.loc (p:=(s.heap.objs.size,s.heap.objs.size)) (by rw [List.getElem?_append_right (Nat.le_refl _)];simp)
end
end Mine.Internal
namespace Mine.Internal
open PySem PySem.SetTable
noncomputable def Yv (xs:Array Nat):Prop:=∀ (i j v w:Nat),i < j -> xs[i]?=some v -> xs[j]?=some w -> v < w
structure Pl (xs:Array Nat) (j p:Nat):Prop where
  le:p <= xs.size
  lo:∀ i v,xs[i]?=some v -> i < p -> v < j
  hi:∀ i v,xs[i]?=some v -> p <= i -> j <= v
theorem Cz {α:Type} {xs:Array α} {i:Nat} {v:α} (h:xs[i]?=some v):i < xs.size:=(Array.getElem?_eq_some_iff.mp h).1
theorem Pl.uniq {xs:Array Nat} {j p q:Nat} (x:Pl xs j p) (y:Pl xs j q):p=q:=by
  refine Nat.le_antisymm (Nat.not_lt.mp fun h=>?_) (Nat.not_lt.mp fun h=>?_)
  · have e:=Array.getElem?_eq_getElem (Nat.lt_of_lt_of_le h x.le)
    exact Nat.not_lt.mpr (y.hi _ _ e (Nat.le_refl _)) (x.lo _ _ e h)
  · have e:=Array.getElem?_eq_getElem (Nat.lt_of_lt_of_le h y.le)
    exact Nat.not_lt.mpr (x.hi _ _ e (Nat.le_refl _)) (y.lo _ _ e h)
theorem Ma {xs:Array Nat} {j:Nat} (r:Yv xs):∀ fuel lo hi,hi - lo <= fuel -> lo <= hi -> hi <= xs.size -> (∀ i v,xs[i]?=some v -> i < lo -> v < j) -> (∀ i v,xs[i]?=some v -> hi <= i -> j <= v) -> Pl xs j (below.go xs j fuel lo hi)
  | 0,lo,hi,hf,hl,hs,a,b=>by
    have:lo=hi:=by exact Amg hf hl
    subst this
    exact ⟨hs,a,b⟩
  | fuel+1,lo,hi,hf,hl,hs,a,b=>by
    unfold below.go
    by_cases c:lo < hi
    · rw [if_pos c]
      have hm:(lo+hi) / 2 < xs.size:=by exact Amh c hs
      have e:=Array.getElem?_eq_getElem hm
      have eg:xs.getD ((lo+hi) / 2) j=xs[(lo+hi) / 2]:=by simp [Array.getD,hm]
      by_cases d:xs.getD ((lo+hi) / 2) j < j
      · show Pl xs j (if xs.getD ((lo+hi) / 2) j < j then below.go xs j fuel ((lo+hi) / 2+1) hi else below.go xs j fuel lo ((lo+hi) / 2))
        rw [if_pos d]
        refine Ma r fuel _ hi (by exact Ami hm hf c) (by exact Amj hm c) hs (fun i v h hi'=>?_) b
        rw [eg] at d
        by_cases q:i=(lo+hi) / 2
        · rw [q,e] at h;exact Option.some.inj h▸d
        · exact Nat.lt_trans (r i _ v _ (by exact Amk hm hi' q) h e) d
      · show Pl xs j (if xs.getD ((lo+hi) / 2) j < j then below.go xs j fuel ((lo+hi) / 2+1) hi else below.go xs j fuel lo ((lo+hi) / 2))
        rw [if_neg d]
        refine Ma r fuel lo _ (by exact Aml hm hf c) (by exact Amm hm c) (by exact Amn hm) a (fun i v h hi'=>?_)
        rw [eg] at d
        by_cases q:i=(lo+hi) / 2
        · rw [q,e] at h;exact Option.some.inj h▸Nat.not_lt.mp d
        · exact Nat.le_trans (Nat.not_lt.mp d) (Nat.le_of_lt (r _ i _ v (by exact Amo hm hi' q) e h))
    · rw [if_neg c]
      have:lo=hi:=by exact Ajq hl c
      subst this
      exact ⟨hs,a,b⟩
theorem Ii {xs:Array Nat} (r:Yv xs) (j:Nat):Pl xs j (below xs j) :=
  Ma r _ 0 xs.size (Nat.le_refl _) (Nat.zero_le _) (Nat.le_refl _) (fun _ _ _ h=>absurd h (Nat.not_lt_zero _)) fun i v h hi=>absurd (Cz h) (Nat.not_lt.mpr hi)
theorem Gm {xs:Array Nat} (r:Yv xs) {i j:Nat} (h:xs[i]?=some j):below xs j=i :=
  (Ii r j).uniq ⟨Nat.le_of_lt (Cz h),fun k v hk hi=>r k i v j hi hk h,fun k v hk hi=>by
    by_cases q:k=i
    · rw [q,h] at hk;exact Nat.le_of_eq (Option.some.inj hk)
    · exact Nat.le_of_lt (r i k j v (by exact Amp hi q) h hk)⟩
theorem Sg {xs:Array Nat} (r:Yv xs) {i j:Nat} (h:xs[i]?=some j):below xs (j+1)=i+1 :=
  (Ii r (j+1)).uniq ⟨Cz h,fun k v hk hi=>by
    by_cases q:k=i
    · rw [q,h] at hk;exact Option.some.inj hk▸Nat.lt_succ_self _
    · exact Nat.lt_succ_of_lt (r k i v j (by exact o51 hi q) hk h),fun k v hk hi=>r i k j v hi h hk⟩
theorem Sh {xs:Array Nat} (r:Yv xs):below xs 0=0:=(Ii r 0).uniq ⟨Nat.zero_le _,fun _ _ _ h=>absurd h (Nat.not_lt_zero _),fun _ _ _ _=>Nat.zero_le _⟩
theorem Nq {t:SetTable} (r:Yv t.place) {i j:Nat} (h:t.place[i]?=some j):t.slot j=.live i:=by
  show (if (t.place[below t.place j]? == some j)=true then Slot.live (below t.place j) else _)=_
  rw [Gm r h,h,if_pos (beq_self_eq_true _)]
theorem Si {t:SetTable} (d:t.dummies=#[]) {j:Nat} (h:∀ i:Nat,t.place[i]?≠some j):t.slot j=.empty:=by
  show (if (t.place[below t.place j]? == some j)=true then Slot.live (below t.place j) else if (t.dummies[below t.dummies j]? == some j)=true then _ else _)=_
  rw [if_neg (fun q=>h _ (eq_of_beq q)),d];rfl
noncomputable def adv (m:Nat) (p:Probe):Probe :=
  if p.more > 0 then { p with j:=p.j+1,more:=p.more - 1 } else
  { p with j:=(leap m p.i p.perturb).1,more:=runEnd m (leap m p.i p.perturb).1 - (leap m p.i p.perturb).1,i:=(leap m p.i p.perturb).1,perturb:=(leap m p.i p.perturb).2 }
noncomputable def grp (m:Nat) (h:Int):Nat -> Nat × Nat
  | 0=>(bits h % (m+1),bits h)
  | n+1=>leap m (grp m h n).1 (grp m h n).2
noncomputable def stp (m:Nat) (h:Int):Nat -> Probe
  | 0=>{ j:=bits h % (m+1),more:=runEnd m (bits h % (m+1)) - bits h % (m+1),i:=bits h % (m+1),perturb:=bits h,dummy:=none }
  | k+1=>adv m (stp m h k)
noncomputable def gs (m:Nat) (h:Int):Nat -> Nat
  | 0=>0
  | n+1=>gs m h n+(runEnd m (grp m h n).1 - (grp m h n).1)+1
theorem Ur {m:Nat} {h:Int} {k i r u:Nat} (e:stp m h k=⟨i,r,i,u,none⟩):∀ a,a <= r -> stp m h (k+a)=⟨i+a,r - a,i,u,none⟩
  | 0,_=>e
  | a+1,ha=>by
    show adv m (stp m h (k+a))=_
    rw [Ur e a (by exact Aju ha)]
    unfold adv
    rw [if_pos (show r - a > 0 by exact Amq ha)]
    rfl
theorem Us (m:Nat) (h:Int):∀ n,stp m h (gs m h n)=⟨(grp m h n).1,runEnd m (grp m h n).1 - (grp m h n).1,(grp m h n).1,(grp m h n).2,none⟩
  | 0=>rfl
  | n+1=>by
    show adv m (stp m h (gs m h n+(runEnd m (grp m h n).1 - (grp m h n).1)))=_
    rw [Ur (Us m h n) _ (Nat.le_refl _)]
    unfold adv
    rw [if_neg (by show ¬ (_ - _ > 0);exact Amr)]
    rfl
theorem Agn (m i:Nat):runEnd m i - i <= 9:=by unfold runEnd;split <;> omega
theorem Ago (m:Nat) (h:Int):∀ n,gs m h n <= 10 * n
  | 0=>Nat.le_refl _
  | n+1=>by
    have:=Ago m h n
    have:=Agn m (grp m h n).1
    show gs m h n+(runEnd m (grp m h n).1 - (grp m h n).1)+1 <= _
    omega
theorem Aa3 (m:Nat) (h:Int):∀ n,(grp m h n).1 <= m
  | 0=>Nat.le_of_lt_succ (Nat.mod_lt _ (Nat.succ_pos _))
  | n+1=>Nat.le_of_lt_succ (Nat.mod_lt _ (Nat.succ_pos _))
theorem Ut (m:Nat) (h:Int):∀ n,(grp m h n).2=bits h / 32 ^ n
  | 0=>by show bits h=_;rw [Nat.pow_zero,Nat.div_one]
  | n+1=>by
    show (grp m h n).2 / 32=_
    rw [Ut m h n,Nat.div_div_eq_div_mul,Nat.pow_succ]
theorem Ac7 (h:Int):bits h < 2 ^ 64:=by
  unfold bits
  have:=Int.emod_lt_of_pos h (show (0:Int) < 2 ^ 64 by decide)
  have:=Int.emod_nonneg h (show (2 ^ 64:Int)≠0 by decide)
  omega
theorem Yw (m:Nat) (h:Int) (n:Nat):(grp m h (13+n)).2=0:=by
  rw [Ut,Nat.pow_add]
  refine Nat.div_eq_of_lt (Nat.lt_of_lt_of_le (Ac7 h) (Nat.le_trans (by decide:2 ^ 64 <= 32 ^ 13) (Nat.le_mul_of_pos_right _ (Nat.pow_pos (by decide)))))
noncomputable def nxt (m i:Nat):Nat:=(i * 5+1) % (m+1)
noncomputable def itr (m:Nat):Nat -> Nat -> Nat
  | 0,i=>i
  | a+1,i=>nxt m (itr m a i)
theorem Mb (m i:Nat) (b:Nat):∀ a,itr m (b+a) i=itr m a (itr m b i)
  | 0=>rfl
  | a+1=>congrArg (nxt m) (Mb m i b a)
theorem Uu (m:Nat) (h:Int):∀ a,(grp m h (13+a)).1=itr m a (grp m h 13).1
  | 0=>rfl
  | a+1=>by
    show (leap m (grp m h (13+a)).1 (grp m h (13+a)).2).1=_
    unfold leap
    rw [Yw,Uu m h a]
    rfl
noncomputable def orb (m:Nat):Nat -> Nat -> List Nat
  | 0,_=>[]
  | n+1,i=>i :: orb m n (nxt m i)
theorem Pq {m e:Nat}:∀ n b,e∈orb m n (itr m b 0) -> ∃ a,a < b+n /\ itr m a 0=e
  | 0,_,h=>by cases h
  | n+1,b,h=>by
    cases h with
    | head=>exact ⟨b,by exact Ams,rfl⟩
    | tail _ h =>
      refine ex1 (Pq n (b+1) h) fun a zz=>Ac zz fun h1 h2=>?_
      exact ⟨a,by exact Amt h1,h2⟩
noncomputable def Msk (m:Nat):Prop:=m=7 \/ m=31 \/ m=127
theorem Ac8 {m:Nat} (hm:Msk m):itr m (m+1) 0=0 /\ ∀ e,e < m+1 -> e∈orb m (m+1) 0:=by
  rcases hm with rfl | rfl | rfl
  · decide +kernel
  · decide +kernel
  · decide +kernel
theorem cyc {m:Nat} (hm:Msk m) {i e:Nat} (hi:i <= m) (he:e <= m):∃ a,a <= m /\ itr m a i=e:=by
  obtain ⟨z,al⟩:=Ac8 hm
  refine ex1 (Pq (m+1) 0 (al i (Nat.lt_succ_of_le hi))) fun b zz=>Ac zz fun hb zr2=>?_;subst zr2
  refine ex1 (Pq (m+1) 0 (al e (Nat.lt_succ_of_le he))) fun c zz=>Ac zz fun hc zr2=>?_;subst zr2
  by_cases q:b <= c
  · exact ⟨c - b,by exact Amu hc q,by rw [<- Mb,show b+(c - b)=c by exact Ah8 q]⟩
  · exact ⟨c+(m+1) - b,by exact Amv hb q,by rw [<- Mb,show b+(c+(m+1) - b)=m+1+c by exact Amw hb,Mb,z]⟩
theorem Ai6 {m:Nat} (hm:Msk m) (h:Int) {e:Nat} (he:e <= m):∃ n,n <= m+13 /\ (grp m h n).1=e:=by
  refine ex1 (cyc hm (Aa3 m h 13) he) fun a zz=>Ac zz fun ha q=>?_
  exact ⟨13+a,by exact Amx ha,by rw [Uu];exact q⟩
theorem Ai7 {P:Nat -> Prop}:∀ n,P n -> ∃ k,k <= n /\ P k /\ ∀ i,i < k -> ¬ P i:=by
  intro n
  induction n using Nat.strongRecOn with
  | _ n ih =>
    intro h
    by_cases c:∃ k,k < n /\ P k
    · refine ex1 c fun k zz=>Ac zz fun hk p=>?_
      refine ex1 (ih k hk p) fun j zz=>As zz fun h1 h2 h3=>?_
      exact ⟨j,by exact Amy hk h1,h2,h3⟩
    · exact ⟨n,Nat.le_refl _,h,fun i hi p=>c ⟨i,hi,p⟩⟩
theorem Lc {m:Nat} (hm:Msk m) (P:Nat -> Prop) (h:Int) {e:Nat} (he:e <= m) (hp:¬ P e):∃ n K,n <= m+13 /\ K <= gs m h n /\ ¬ P (stp m h K).j /\ ∀ k,k < K -> P (stp m h k).j:=by
  refine ex1 (Ai6 hm h he) fun n zz=>Ac zz fun hn q=>?_
  refine ex1 (Ai7 (P:=fun k=>¬ P (stp m h k).j) (gs m h n) (by rw [Us];show ¬ P (grp m h n).1;rw [q];exact hp)) fun K zz=>As zz fun h1 h2 h3=>?_
  exact ⟨n,K,hn,h1,h2,fun k hk=>Classical.not_not.mp (h3 k hk)⟩
theorem Uv {α:Type} [DecidableEq α] {l m:List α} (nd:l.Nodup) (nm:m.Nodup) (h:∀ x∈l,x∈m):l.length <= m.length:=by
  have p:(m.filter (fun k=>decide (k∈l))).Perm l:=by
    rw [List.perm_ext_iff_of_nodup (nm.sublist List.filter_sublist) nd]
    intro k
    rw [List.mem_filter,decide_eq_true_eq]
    exact ⟨fun h=>h.2,fun q=>⟨h k q,q⟩⟩
  rw [<- p.length_eq]
  exact List.length_filter_le _ _
theorem Nr {m:Nat} {ps:List Nat} (nd:ps.Nodup) (h:ps.length < m+1):∃ e,e <= m /\ e ∉ ps:=by
  by_cases c:∃ e,e <= m /\ e ∉ ps
  · exact c
  · have:=Uv (List.nodup_range (n:=m+1)) nd fun x hx=>Classical.not_not.mp fun q=>c ⟨x,Nat.le_of_lt_succ (List.mem_range.mp hx),q⟩
    rw [List.length_range] at this
    exact (Amz this h).elim
noncomputable def Tk (xs:Array Nat) (j:Nat):Prop:=∃ i:Nat,xs[i]?=some j
noncomputable def Uw (m:Nat) (P:Nat -> Prop) (h:Int) (j:Nat):Prop:=∃ k,(stp m h k).j=j /\ ∀ k',k' < k -> P (stp m h k').j
theorem Uw.mono {m:Nat} {P Q:Nat -> Prop} {h:Int} {j:Nat} (x:Uw m P h j) (i:∀ j,P j -> Q j):Uw m Q h j :=
  let ⟨k,e,a⟩:=x;⟨k,e,fun k' hk=>i _ (a k' hk)⟩
structure TOk (t:SetTable) (es:Array (Int × Value)):Prop where
  size:t.place.size=es.size
  dum:t.dummies=#[]
  msk:Msk t.mask
  rise:Yv t.place
  low:∀ (i j:Nat),t.place[i]?=some j -> j <= t.mask
  way:∀ (i j:Nat) (h:Int) (x:Value),t.place[i]?=some j -> es[i]?=some (h,x) -> Uw t.mask (Tk t.place) h j
  room:t.place.size <= t.mask
theorem Yv.nodup {xs:Array Nat} (r:Yv xs):xs.toList.Nodup:=by
  rw [List.Nodup,List.pairwise_iff_getElem]
  intro i j hi hj hij e
  have h1:xs[i]?=some xs.toList[i]:=by rw [<- Array.getElem?_toList,List.getElem?_eq_getElem hi]
  have h2:xs[j]?=some xs.toList[j]:=by rw [<- Array.getElem?_toList,List.getElem?_eq_getElem hj]
  exact Nat.ne_of_lt (r i j _ _ hij h1 h2) e
theorem Aa4 {xs:Array Nat} {j:Nat}:Tk xs j↔j∈xs.toList:=by
  rw [List.mem_iff_getElem?]
  exact ⟨fun ⟨i,h⟩=>⟨i,by rw [Array.getElem?_toList];exact h⟩,fun ⟨i,h⟩=>⟨i,by rw [<- Array.getElem?_toList];exact h⟩⟩
theorem Ux (m i:Nat):i <= runEnd m i:=by unfold runEnd;split <;> omega
theorem Pr {m i:Nat} (h:i <= m):runEnd m i <= m:=by unfold runEnd;split <;> assumption
theorem Mc (m:Nat) (h:Int):∀ k,(stp m h k).j+(stp m h k).more <= m /\ (stp m h k).dummy=none
  | 0=>by
    have a:bits h % (m+1) <= m:=Nat.le_of_lt_succ (Nat.mod_lt _ (Nat.succ_pos _))
    have b:=Ux m (bits h % (m+1))
    have c:=Pr a
    refine ⟨?_,rfl⟩
    show bits h % (m+1)+(runEnd m (bits h % (m+1)) - bits h % (m+1)) <= m
    exact Ajv b c
  | k+1=>by
    obtain ⟨x,y⟩:=Mc m h k
    show (adv m (stp m h k)).j+(adv m (stp m h k)).more <= m /\ (adv m (stp m h k)).dummy=none
    unfold adv
    by_cases c:(stp m h k).more > 0
    · rw [if_pos c]
      refine ⟨?_,y⟩
      show (stp m h k).j+1+((stp m h k).more - 1) <= m
      exact Am0 x c
    · rw [if_neg c]
      refine ⟨?_,y⟩
      have a:(leap m (stp m h k).i (stp m h k).perturb).1 <= m:=Nat.le_of_lt_succ (Nat.mod_lt _ (Nat.succ_pos _))
      have b:=Ux m (leap m (stp m h k).i (stp m h k).perturb).1
      have d:=Pr a
      show (leap m (stp m h k).i (stp m h k).perturb).1+(runEnd m (leap m (stp m h k).i (stp m h k).perturb).1 - (leap m (stp m h k).i (stp m h k).perturb).1) <= m
      exact Ajv b d
structure Fst (m:Nat) (P:Nat -> Prop) (h:Int) (n K:Nat):Prop where
  few:n <= m+13
  le:K <= gs m h n
  free:¬ P (stp m h K).j
  full:∀ k,k < K -> P (stp m h k).j
theorem Fst.few' {m:Nat} {P:Nat -> Prop} {h:Int} {n K:Nat} (x:Fst m P h n K):K <= 10 * (m+13):=Nat.le_trans x.le (Nat.le_trans (Ago m h n) (Nat.mul_le_mul_left 10 x.few))
section
variable {t:SetTable} {es:Array (Int × Value)}
theorem TOk.first (T:TOk t es) (h:Int):∃ n K,Fst t.mask (Tk t.place) h n K:=by
  refine ex1 (Nr T.rise.nodup (m:=t.mask) (by rw [Array.length_toList];exact Nat.lt_succ_of_le T.room)) fun e zz=>Ac zz fun h1 h2=>?_
  refine ex2 (Lc T.msk (Tk t.place) h h1 (fun q=>h2 (Aa4.mp q))) fun n K zz=>By zz fun a b c d=>?_
  exact ⟨n,K,a,b,c,d⟩
theorem Uy (T:TOk t es) (hashAt:Nat -> Int) {h:Int} {n K:Nat} (X:Fst t.mask (Tk t.place) h n K):∀ fuel k,k <= K -> K - k < fuel ->
    (∃ k1 i:Nat,k <= k1 /\ k1 < K /\ t.place[i]?=some (stp t.mask h k1).j /\ hashAt i=h /\ (∀ k',k <= k' -> k' < k1 -> ∀ i':Nat,t.place[i']?=some (stp t.mask h k').j -> hashAt i'≠h) /\ probe.go t hashAt h fuel (stp t.mask h k)=some (.candidate (stp t.mask h k1).j i (stp t.mask h (k1+1))))
    \/ ((∀ k',k <= k' -> k' < K -> ∀ i':Nat,t.place[i']?=some (stp t.mask h k').j -> hashAt i'≠h) /\ probe.go t hashAt h fuel (stp t.mask h k)=some (.empty (stp t.mask h K).j none))
  | 0,k,hk,hf=>absurd hf (Nat.not_lt_zero _)
  | fuel+1,k,hk,hf=>by
    by_cases c:k=K
    · subst c
      refine .inr ⟨fun k' a b=>absurd a (Nat.not_le.mpr b),?_⟩
      unfold probe.go
      rw [Si T.dum (fun i q=>X.free ⟨i,q⟩),(Mc t.mask h k).2]
    · have lt:k < K:=Nat.lt_of_le_of_ne hk c
      obtain ⟨i,hi⟩:=X.full k lt
      have e:probe.go t hashAt h (fuel+1) (stp t.mask h k)=if hashAt i == h then some (.candidate (stp t.mask h k).j i (stp t.mask h (k+1))) else probe.go t hashAt h fuel (stp t.mask h (k+1)):=by
        rw [probe.go,Nq T.rise hi];rfl
      rw [e]
      by_cases d:hashAt i=h
      · rw [if_pos (beq_iff_eq.mpr d)]
        exact .inl ⟨k,i,Nat.le_refl _,lt,hi,d,fun k' a b=>absurd a (Nat.not_le.mpr b),rfl⟩
      · rw [if_neg (fun q=>d (beq_iff_eq.mp q))]
        have here:∀ i':Nat,t.place[i']?=some (stp t.mask h k).j -> hashAt i'≠h:=fun i' q=>by
          have:=(Gm T.rise q).symm.trans (Gm T.rise hi)
          rw [this];exact d
        rcases Uy T hashAt X fuel (k+1) lt (by exact Am1 hf lt c d) with ⟨k1,i1,a1,a2,a3,a4,a5,a6⟩ | ⟨b1,b2⟩
        · refine .inl ⟨k1,i1,by exact Aju a1,a2,a3,a4,fun k' q1 q2=>?_,a6⟩
          by_cases w:k'=k
          · rw [w];exact here
          · exact a5 k' (by exact Ajw q1 w) q2
        · refine .inr ⟨fun k' q1 q2=>?_,b2⟩
          by_cases w:k'=k
          · rw [w];exact here
          · exact b1 k' (by exact Ajw q1 w) q2
theorem Yx {α:Type} (xs:Array α) (p:Nat) (x:α):(insertAt xs p x).toList=xs.toList.take p++x :: xs.toList.drop p:=SetTable.toList_insertAt xs p x
theorem Uz {α:Type} {xs:Array α} {p:Nat} (x:α) (hp:p <= xs.size) (i:Nat):(insertAt xs p x)[i]?=if i < p then xs[i]? else if i=p then some x else xs[i - 1]?:=by
  rw [<- Array.getElem?_toList,Yx]
  have lt:(xs.toList.take p).length=p:=by rw [List.length_take,Array.length_toList];exact Am2 hp
  by_cases c:i < p
  · rw [if_pos c,List.getElem?_append_left (by rw [lt];exact c),List.getElem?_take_of_lt c,Array.getElem?_toList]
  · rw [if_neg c,List.getElem?_append_right (by rw [lt];exact Ajx lt c),lt]
    by_cases d:i=p
    · rw [if_pos d,d,Nat.sub_self];rfl
    · rw [if_neg d,show i - p=(i - p - 1)+1 by exact Am3 lt c d,List.getElem?_cons_succ,List.getElem?_drop,show p+(i - p - 1)=i - 1 by exact Am4 lt c d,Array.getElem?_toList]
theorem Ij {α:Type} (xs:Array α) (p:Nat) (x:α):(insertAt xs p x).size=xs.size+1:=by
  rw [<- Array.length_toList,(SetTable.insertAt_perm xs p x).length_eq,Array.length_toList,Array.size_push]
theorem Aa5 (T:TOk t es) (j:Nat):t.put j=({ t with place:=insertAt t.place (below t.place j) j },below t.place j):=by
  unfold SetTable.put
  have:has t.dummies j=false:=by rw [T.dum];rfl
  simp only [this]
  rfl
theorem TOk.put (T:TOk t es) {h:Int} {n K:Nat} (X:Fst t.mask (Tk t.place) h n K) (x:Value) (rm:t.place.size+1 <= t.mask) :
    TOk (t.put (stp t.mask h K).j).1 (insertAt es (t.put (stp t.mask h K).j).2 (h,x)):=by
  rw [Aa5 T]
  generalize hj:(stp t.mask h K).j=j
  have P:=Ii T.rise j
  have nj:¬ Tk t.place j:=hj▸X.free
  generalize below t.place j=p at P
  have pe:p <= es.size:=T.size▸P.le
  have g1:=Uz j P.le
  have g2:=Uz (h,x) pe
  have up:∀ q,Tk t.place q -> Tk (insertAt t.place p j) q:=fun q=>by
    rintro ⟨i,hi⟩
    by_cases c:i < p
    · exact ⟨i,by rw [g1,if_pos c];exact hi⟩
    · exact ⟨i+1,by rw [g1,if_neg (by exact Am5 c),if_neg (by exact Am6 c)];exact hi⟩
  refine ⟨?_,T.dum,T.msk,?_,?_,?_,?_⟩
  · show (insertAt t.place p j).size=_
    rw [Ij,Ij,T.size]
  · intro a b v w hab ha hb
    have ha:(insertAt t.place p j)[a]?=some v:=ha
    have hb:(insertAt t.place p j)[b]?=some w:=hb
    rw [g1] at ha hb
    by_cases c1:a < p
    · rw [if_pos c1] at ha
      by_cases c2:b < p
      · rw [if_pos c2] at hb;exact T.rise a b v w hab ha hb
      · rw [if_neg c2] at hb
        by_cases c3:b=p
        · rw [if_pos c3] at hb;exact Option.some.inj hb▸P.lo a v ha c1
        · rw [if_neg c3] at hb;exact T.rise a (b - 1) v w (by exact Am7 hab c1 c2 c3) ha hb
    · rw [if_neg c1] at ha
      rw [if_neg (by exact Am8 hab c1)] at hb
      by_cases c3:a=p
      · rw [if_pos c3] at ha
        rw [if_neg (by exact Ajn hab c3)] at hb
        have le:=P.hi (b - 1) w hb (by exact Ajo hab c3)
        have:=Option.some.inj ha
        subst this
        exact Nat.lt_of_le_of_ne le fun e=>nj ⟨b - 1,e▸hb⟩
      · rw [if_neg c3] at ha
        rw [if_neg (by exact Am9 hab c1)] at hb
        exact T.rise (a - 1) (b - 1) v w (by exact Ana hab c1 c3) ha hb
  · intro i q hq
    have hq:(insertAt t.place p j)[i]?=some q:=hq
    rw [g1] at hq
    by_cases c:i < p
    · rw [if_pos c] at hq;exact T.low i q hq
    · rw [if_neg c] at hq
      by_cases d:i=p
      · rw [if_pos d] at hq
        have:=(Mc t.mask h K).1
        rw [<- Option.some.inj hq,<- hj]
        exact Nat.le_trans (Nat.le_add_right _ _) this
      · rw [if_neg d] at hq;exact T.low _ q hq
  · intro i q h' x' hq he
    have hq:(insertAt t.place p j)[i]?=some q:=hq
    rw [g1] at hq
    rw [g2] at he
    by_cases c:i < p
    · rw [if_pos c] at hq he
      exact (T.way i q h' x' hq he).mono up
    · rw [if_neg c] at hq he
      by_cases d:i=p
      · rw [if_pos d] at hq he
        cases he
        exact ⟨K,hj.trans (Option.some.inj hq),fun k hk=>up _ (X.full k hk)⟩
      · rw [if_neg d] at hq he
        exact (T.way _ q h' x' hq he).mono up
  · show (insertAt t.place p j).size <= t.mask
    rw [Ij];exact rm
end
noncomputable def Occ (ow:Array (Option Nat)) (j:Nat):Prop:=∃ k,ow[j]?=some (some k)
theorem Agp (m:Nat) (h:Int) {a:Nat}:∀ b,a < b -> gs m h a < gs m h b
  | b+1,hab=>by
    have:gs m h b < gs m h (b+1):=by
      show _ < gs m h b+(runEnd m (grp m h b).1 - (grp m h b).1)+1
      exact Anb
    by_cases c:a=b
    · rw [c];exact this
    · exact Nat.lt_trans (Agp m h b (by exact o51 hab c)) this
theorem Nt {m:Nat} {ow:Array (Option Nat)} {h:Int} {N K:Nat} (sz:ow.size=m+1) (X:Fst m (Occ ow) h N K):∀ f n,gs m h n <= K -> N < n+f -> layClean.free m ow f (grp m h n).1 (grp m h n).2=some (stp m h K).j
  | 0,n,h1,h2=>absurd (Nat.le_trans h1 X.le) (Nat.not_le.mpr (Agp m h n h2))
  | f+1,n,h1,h2=>by
    unfold layClean.free
    have il:=Aa3 m h n
    have a:=Ux m (grp m h n).1
    have b:=Pr il
    have at':∀ k,k <= runEnd m (grp m h n).1 - (grp m h n).1 -> (stp m h (gs m h n+k)).j=(grp m h n).1+k:=fun k hk=>by rw [Ur (Us m h n) k hk]
    have tr:∀ k,k <= runEnd m (grp m h n).1 - (grp m h n).1 -> ∀ q:Bool,(q=true↔Occ ow ((grp m h n).1+k)) -> (ow.getD ((grp m h n).1+k) (some 0)).isNone=!q:=fun k hk q hq=>by
      have lt:(grp m h n).1+k < ow.size:=by exact Anc sz hk a b
      have e:ow.getD ((grp m h n).1+k) (some 0)=ow[(grp m h n).1+k]:=by simp [Array.getD,lt]
      have e2:=Array.getElem?_eq_getElem lt
      rw [e]
      cases o:ow[(grp m h n).1+k] with
      | none =>
        have:q=false:=by
          cases q with
          | false=>rfl
          | true =>
            obtain ⟨v,hv⟩:=hq.mp rfl
            rw [e2,o] at hv;cases hv
        rw [this];rfl
      | some v =>
        have:q=true:=hq.mpr ⟨v,by rw [e2,o]⟩
        rw [this];rfl
    by_cases c:K <= gs m h n+(runEnd m (grp m h n).1 - (grp m h n).1)
    · have hf:(List.range (runEnd m (grp m h n).1+1 - (grp m h n).1)).find? (fun k=>(ow.getD ((grp m h n).1+k) (some 0)).isNone)=some (K - gs m h n):=by
        rw [List.find?_range_eq_some]
        refine ⟨?_,List.mem_range.mpr (by exact Ane c h1 a),fun k hk=>?_⟩
        · rw [tr _ (by exact Ah9 c h1) false ⟨(fun q=>nomatch q),fun q=>absurd q (by
            have:=X.free
            rwa [show K=gs m h n+(K - gs m h n) by exact Anf h1,at' _ (by exact Ah9 c h1)] at this)⟩];rfl
        · rw [tr _ (by exact Ajy hk c h1) true ⟨fun _=>by
            have:=X.full (gs m h n+k) (by exact Ang hk h1)
            rwa [at' _ (by exact Ajy hk c h1)] at this,fun _=>rfl⟩];rfl
      rw [hf]
      show some ((grp m h n).1+(K - gs m h n))=_
      rw [<- at' (K - gs m h n) (by exact Ah9 c h1),show gs m h n+(K - gs m h n)=K by exact Ah8 h1]
    · have hf:(List.range (runEnd m (grp m h n).1+1 - (grp m h n).1)).find? (fun k=>(ow.getD ((grp m h n).1+k) (some 0)).isNone)=none:=by
        rw [List.find?_range_eq_none]
        intro k hk
        rw [tr _ (by exact Ajz hk a) true ⟨fun _=>by
            have:=X.full (gs m h n+k) (by exact Anh hk a c)
            rwa [at' _ (by exact Ajz hk a)] at this,fun _=>rfl⟩];rfl
      rw [hf]
      exact Nt sz X f (n+1) (by
        show gs m h n+(runEnd m (grp m h n).1 - (grp m h n).1)+1 <= K
        exact Ani c) (by exact Anj h2)
theorem Q2 {β:Type} {f g:Nat -> Option β}:∀ l:List Nat,(∀ x∈l,g x=f x) -> l.filterMap g=l.filterMap f
  | [],_=>rfl
  | a :: l,h=>by
    have e:=h a (.head _)
    have ih:=Q2 l fun x hx=>h x (.tail _ hx)
    cases q:f a with
    | none=>rw [List.filterMap_cons_none q,List.filterMap_cons_none (e.trans q),ih]
    | some x=>rw [List.filterMap_cons_some q,List.filterMap_cons_some (e.trans q),ih]
theorem U0 {β:Type} {f g:Nat -> Option β} {j:Nat} {b:β} (hf:f j=none) (hg:g j=some b) (ho:∀ i,i≠j -> g i=f i):∀ l:List Nat,l.Nodup -> j∈l -> (l.filterMap g).Perm (b :: l.filterMap f)
  | [],_,h=>by cases h
  | a :: l,nd,h=>by
    have nd':=List.nodup_cons.mp nd
    by_cases c:a=j
    · subst c
      rw [List.filterMap_cons_some hg,List.filterMap_cons_none hf]
      rw [Q2 l fun x hx=>ho x fun e=>nd'.1 (e▸hx)]
    · have hm:j∈l:=by
        cases h with
        | head=>exact absurd rfl c
        | tail _ h=>exact h
      have ih:=U0 hf hg ho l nd'.2 hm
      cases e:f a with
      | none=>rw [List.filterMap_cons_none e,List.filterMap_cons_none ((ho a c).trans e)];exact ih
      | some x =>
        rw [List.filterMap_cons_some e,List.filterMap_cons_some ((ho a c).trans e)]
        exact (ih.cons x).trans (List.Perm.swap _ _ _)
noncomputable def own (ow:Array (Option Nat)) (j:Nat):Option (Nat × Nat):=(ow.getD j none).map (j,·)
noncomputable def liv (m:Nat) (ow:Array (Option Nat)):List (Nat × Nat):=(List.range (m+1)).filterMap (own ow)
theorem Fi {ow:Array (Option Nat)} {j:Nat} {p:Nat × Nat}:own ow j=some p↔p.1=j /\ ow[j]?=some (some p.2):=by
  unfold own
  rw [Array.getD_eq_getD_getElem?]
  obtain ⟨a,b⟩:=p
  cases h:ow[j]? with
  | none=>simp
  | some o =>
    cases o with
    | none=>simp
    | some v=>simp [eq_comm]
theorem Jh {m:Nat} {ow:Array (Option Nat)} (sz:ow.size=m+1) {p:Nat × Nat}:p∈liv m ow↔ow[p.1]?=some (some p.2):=by
  unfold liv
  rw [List.mem_filterMap]
  refine ⟨fun ⟨j,_,h⟩=>?_,fun h=>⟨p.1,List.mem_range.mpr (sz▸Cz h),Fi.mpr ⟨rfl,h⟩⟩⟩
  obtain ⟨e,h⟩:=Fi.mp h
  rw [e];exact h
theorem Q3 (m:Nat) (ow:Array (Option Nat)):(liv m ow).Pairwise fun a b=>a.1 < b.1:=by
  unfold liv
  rw [List.pairwise_filterMap]
  refine List.Pairwise.imp ?_ List.pairwise_lt_range
  intro a b hab p hp q hq
  rw [(Fi.mp hp).1,(Fi.mp hq).1];exact hab
structure LI (m:Nat) (hs:List Int) (ow:Array (Option Nat)):Prop where
  size:ow.size=m+1
  its:∀ j k:Nat,ow[j]?=some (some k) -> ∃ h,hs[k]?=some h /\ Uw m (Occ ow) h j
  perm:((liv m ow).map (·.2)).Perm (List.range hs.length)
theorem LI.step {m:Nat} {hs:List Int} {ow:Array (Option Nat)} (hm:Msk m) (x:LI m hs ow) (h:Int) (rm:hs.length <= m):∃ j,layClean.free m ow (SetTable.turns m) (bits h % (m+1)) (bits h)=some j /\ LI m (hs++[h]) (ow.setIfInBounds j (some hs.length)):=by
  have len:(liv m ow).length=hs.length:=by have:=x.perm.length_eq;rwa [List.length_map,List.length_range] at this
  obtain ⟨e,h1,h2⟩:=Nr (ps:=(liv m ow).map (·.1)) (m:=m) (by
    rw [List.Nodup,List.pairwise_map]
    exact (Q3 m ow).imp fun h=>Nat.ne_of_lt h) (by rw [List.length_map,len];exact Ank len rm)
  refine ex2 (Lc hm (Occ ow) h h1 (fun ⟨k,q⟩=>h2 (List.mem_map.mpr ⟨(e,k),(Jh x.size).mpr q,rfl⟩))) fun n K zz=>By zz fun a b c d=>?_
  have X:Fst m (Occ ow) h n K:=⟨a,b,c,d⟩
  refine ⟨_,Nt x.size X (SetTable.turns m) 0 (Nat.zero_le _) (by unfold SetTable.turns;exact Anl a),?_⟩
  generalize hj:(stp m h K).j=j
  have nj:¬ Occ ow j:=hj▸X.free
  have jl:j < ow.size:=by
    have:=(Mc m h K).1
    rw [x.size,<- hj];exact Anm this hj
  have gj:ow[j]?=some none:=by
    have e:=Array.getElem?_eq_getElem jl
    cases o:ow[j] with
    | none=>rw [e,o]
    | some v=>exact absurd ⟨v,by rw [e,o]⟩ nj
  have get:∀ i:Nat,(ow.setIfInBounds j (some hs.length))[i]?=if i=j then some (some hs.length) else ow[i]?:=fun i=>by
    rw [Array.getElem?_setIfInBounds]
    by_cases q:j=i
    · rw [if_pos q,if_pos (q▸jl),if_pos q.symm]
    · rw [if_neg q,if_neg (fun w=>q w.symm)]
  have up:∀ i,Occ ow i -> Occ (ow.setIfInBounds j (some hs.length)) i:=fun i ⟨k,hk⟩=>by
    by_cases q:i=j
    · exact ⟨_,by rw [get,if_pos q]⟩
    · exact ⟨k,by rw [get,if_neg q];exact hk⟩
  refine ⟨by rw [Array.size_setIfInBounds];exact x.size,fun i k hk=>?_,?_⟩
  · rw [get] at hk
    by_cases q:i=j
    · rw [if_pos q] at hk
      have:=Option.some.inj (Option.some.inj hk)
      subst this
      refine ⟨h,by simp,K,hj.trans q.symm,fun k hk=>up _ (X.full k hk)⟩
    · rw [if_neg q] at hk
      refine ex1 (x.its i k hk) fun h' zz=>Ac zz fun e1 e2=>?_
      exact ⟨h',by rw [List.getElem?_append_left (List.getElem?_eq_some_iff.mp e1).1];exact e1,e2.mono up⟩
  · have p:=U0 (f:=own ow) (g:=own (ow.setIfInBounds j (some hs.length))) (j:=j) (b:=(j,hs.length))
      (by cases q:own ow j with
        | none=>rfl
        | some v=>exact absurd ⟨_,(Fi.mp q).2⟩ nj)
      (Fi.mpr ⟨rfl,by rw [get,if_pos rfl]⟩)
      (fun i hi=>by
        unfold own
        rw [Array.getD_eq_getD_getElem?,Array.getD_eq_getD_getElem?,get,if_neg hi])
      (List.range (m+1)) List.nodup_range (List.mem_range.mpr (x.size▸jl))
    have q:=p.map (·.2)
    rw [List.length_append,List.length_singleton,List.range_succ]
    exact q.trans ((x.perm.cons _).trans (List.perm_append_singleton _ _).symm)
theorem Q4 {m:Nat} (hm:Msk m):∀ (rest hs:List Int) (ow:Array (Option Nat)),LI m hs ow -> hs.length+rest.length <= m ->
    ∃ ow',rest.foldl (fun acc h=>do
      let (owner,k) <- acc
      let j <- layClean.free m owner (SetTable.turns m) (bits h % (m+1)) (bits h)
      pure (owner.setIfInBounds j (some k),k+1)) (some (ow,hs.length))=some (ow',hs.length+rest.length) /\ LI m (hs++rest) ow'
  | [],hs,ow,x,_=>⟨ow,rfl,by rw [List.append_nil];exact x⟩
  | h :: rest,hs,ow,x,rm=>by
    rw [List.length_cons] at rm
    refine ex1 (x.step hm h (by exact Ann rm)) fun j zz=>Ac zz fun e y=>?_
    refine ex1 (Q4 hm rest (hs++[h]) _ y (by rw [List.length_append,List.length_singleton];exact Ano rm)) fun ow' zz=>Ac zz fun e2 z=>?_
    refine ⟨ow',?_,by rw [List.append_assoc] at z;exact z⟩
    rw [List.length_append,List.length_singleton] at e2
    rw [List.foldl_cons]
    show List.foldl _ ((layClean.free m ow (SetTable.turns m) (bits h % (m+1)) (bits h)).bind fun j=>some (ow.setIfInBounds j (some hs.length),hs.length+1)) rest=_
    rw [e]
    refine e2.trans ?_
    rw [List.length_cons,Nat.add_assoc,Nat.add_comm 1]
theorem Agq {m:Nat} (hm:Msk m) (hashes:Array Int) (rm:hashes.size <= m):∃ ow,layClean m hashes=some ow /\ LI m hashes.toList ow:=by
  have x0:LI m [] (Array.replicate (m+1) none):=by
    refine ⟨Array.size_replicate,fun j k h=>?_,?_⟩
    · rw [Array.getElem?_replicate] at h
      split at h <;> cases h
    · have:liv m (Array.replicate (m+1) none)=[]:=by
        rw [List.eq_nil_iff_forall_not_mem]
        intro p hp
        have h:=(Jh Array.size_replicate).mp hp
        rw [Array.getElem?_replicate] at h
        split at h <;> cases h
      rw [this]
      exact List.Perm.refl _
  refine ex1 (Q4 hm hashes.toList [] _ x0 (by rw [List.length_nil,Array.length_toList];exact Anp rm)) fun ow zz=>Ac zz fun e y=>?_
  refine ⟨ow,?_,y⟩
  unfold layClean
  rw [<- Array.foldl_toList]
  exact congrArg (Option.map _) e
theorem Ac9 {m f mv:Nat} {led plain:Bool} (hm:Msk m) {es:Array (Int × Value)} (rm:es.size <= m):∃ t' order,laid m f mv led plain (es.map (·.1))=some (t',order) /\ t'.mask=m /\ t'.led=led /\ t'.plain=plain /\ (order.filterMap (es[·]?)).size=es.size /\ TOk t' (order.filterMap (es[·]?)) /\ (order.filterMap (es[·]?)).toList.Perm es.toList:=by
  refine ex1 (Agq hm (es.map (·.1)) (by rw [Array.size_map];exact rm)) fun ow zz=>Ac zz fun e x=>?_
  refine ⟨{ mask:=m,place:=((liv m ow).map (·.1)).toArray,dummies:=#[],finger:=f,led:=led,moves:=mv,plain:=plain },((liv m ow).map (·.2)).toArray,by unfold laid;rw [e];rfl,rfl,rfl,rfl,?_⟩
  have pm:=x.perm
  rw [Array.length_toList,Array.size_map] at pm
  have fm:((((liv m ow).map (·.2)).toArray).filterMap (es[·]?)).toList=((liv m ow).map (·.2)).filterMap (es[·]?):=by
    rw [Array.toList_filterMap]
  have perm:(((liv m ow).map (·.2)).filterMap (es[·]?)).Perm es.toList:=by
    have:=pm.filterMap (es[·]?)
    rwa [PySem.filterMap_getElem?_range] at this
  have get:∀ i:Nat,((((liv m ow).map (·.2)).toArray).filterMap (es[·]?))[i]?=((liv m ow)[i]?).bind fun p=>es[p.2]?:=fun i=>by
    rw [<- Array.getElem?_toList,fm,List.filterMap_map]
    have al:∀ p∈liv m ow,∃ v,es[p.2]?=some v:=fun p hp=>by
      have:=(pm.mem_iff (a:=p.2)).mp (List.mem_map.mpr ⟨p,hp,rfl⟩)
      exact ⟨_,Array.getElem?_eq_getElem (List.mem_range.mp this)⟩
    generalize liv m ow=l at al
    induction l generalizing i with
    | nil=>rfl
    | cons p l ih =>
      obtain ⟨v,hv⟩:=al p (.head _)
      rw [List.filterMap_cons_some (by exact hv)]
      cases i with
      | zero=>exact hv.symm
      | succ i=>rw [List.getElem?_cons_succ,List.getElem?_cons_succ];exact ih i fun q hq=>al q (.tail _ hq)
  have sz:((((liv m ow).map (·.2)).toArray).filterMap (es[·]?)).size=es.size:=by
    rw [<- Array.length_toList,fm,perm.length_eq,Array.length_toList]
  have ll:(liv m ow).length=es.size:=by have:=pm.length_eq;rwa [List.length_map,List.length_range] at this
  have pl:∀ i:Nat,(((liv m ow).map (·.1)).toArray)[i]?=((liv m ow)[i]?).map (·.1):=fun i=>by
    rw [List.getElem?_toArray,List.getElem?_map]
  have oc:∀ j,Occ ow j -> Tk (((liv m ow).map (·.1)).toArray) j:=fun j ⟨k,hk⟩=>Aa4.mpr (List.mem_map.mpr ⟨(j,k),(Jh x.size).mpr hk,rfl⟩)
  refine ⟨sz,⟨?_,rfl,hm,?_,?_,?_,?_⟩,by rw [fm];exact perm⟩
  · show (((liv m ow).map (·.1)).toArray).size=_
    rw [sz,List.size_toArray,List.length_map,ll]
  · intro i j v w hij hi hj
    have hi:=(pl i).symm.trans hi
    have hj:=(pl j).symm.trans hj
    refine ex1 (Option.map_eq_some_iff.mp hi) fun p zz=>Ac zz fun a1 zr2=>?_;subst zr2
    refine ex1 (Option.map_eq_some_iff.mp hj) fun q zz=>Ac zz fun b1 zr2=>?_;subst zr2
    obtain ⟨h1,e1⟩:=List.getElem?_eq_some_iff.mp a1
    obtain ⟨h2,e2⟩:=List.getElem?_eq_some_iff.mp b1
    have:=List.pairwise_iff_getElem.mp (Q3 m ow) i j h1 h2 hij
    rwa [e1,e2] at this
  · intro i j hi
    have hi:=(pl i).symm.trans hi
    refine ex1 (Option.map_eq_some_iff.mp hi) fun p zz=>Ac zz fun a1 zr2=>?_;subst zr2
    have:=Cz ((Jh x.size).mp (List.mem_of_getElem? a1))
    rw [x.size] at this
    exact Nat.le_of_lt_succ this
  · intro i j h v hi he
    have hi:=(pl i).symm.trans hi
    refine ex1 (Option.map_eq_some_iff.mp hi) fun p zz=>Ac zz fun a1 zr2=>?_;subst zr2
    rw [get,a1] at he
    refine ex1 (x.its p.1 p.2 ((Jh x.size).mp (List.mem_of_getElem? a1))) fun h' zz=>Ac zz fun e1 e2=>?_
    have he:es[p.2]?=some (h,v):=he
    rw [Array.getElem?_toList,Array.getElem?_map,he] at e1
    rw [<- Option.some.inj e1] at e2
    exact e2.mono oc
  · show (((liv m ow).map (·.1)).toArray).size <= m
    rw [List.size_toArray,List.length_map,ll];exact rm
end Mine.Internal
namespace Mine.Internal
open PySem PySem.SetTable PyProof.Rows
section
variable {prog:Program} {w:World} {A:Around} {E:Value -> Shared -> Prop} {s:Shared} {a b:Addr} {k:List Int} {es:Array (Int × Value)} {t:SetTable} {ep:Nat} {o:Obj}
noncomputable abbrev TKey (prog:Program) (w:World) (h:Heap) (k:List Int) (b:Addr):Prop:=IsTupleKey (intKind prog w) h k b
noncomputable def Bp (prog:Program) (w:World) (k:List Int):Int:=tupleKeyHash (intKind prog w) k
noncomputable def Afk (prog:Program) (w:World) (p:List Int × Addr):Int × Value:=(Bp prog w p.1,.ref p.2)
theorem Nu {ks:List Int} {vs:List Value} (h:ItemsAre (intKind prog w) ks vs):∀ v∈vs,∃ i t,v=.int i t:=by
  induction h with
  | nil=>intro v hv;cases hv
  | cons h1 _ ih =>
    intro v hv
    rcases List.mem_cons.mp hv with rfl | hv
    · obtain ⟨t,rfl⟩:=Value.isInt_shape h1;exact ⟨_,t,rfl⟩
    · exact ih v hv
theorem Nv {Q:Bool -> Shared -> Prop} (hk:TKey prog w s.heap k b) (h:Q true s):wpAny (model prog w) A (hashByValue 8 (.ref b)) Q E s:=by
  have hT:=hk.typeIs
  refine ex3 hk fun o items n zz=>By zz fun ho _ hd hi=>?_
  unfold hashByValue
  refine wpAny_bind (wpAny_specialOf hT F.slot_tuple_hash.lookup ?_)
  show wpAny _ _ (seqItems? (.ref b)>>=_) _ _ s
  refine wpAny_bind (wpAny_seqItems ho hd ?_)
  refine wpAny_bind ?_
  show wpAny _ _ (forIn items _ _) _ _ s
  rw [<- Array.forIn_toList]
  refine wpAny_forIn_list _ (fun rest r s'=>r.1=none /\ s'=s /\ ∀ v∈rest,∃ i t,v=.int i t) _ ?_ ?_ _ _ ⟨rfl,rfl,Nu hi⟩
  · rintro v rest r s' ⟨hr,rfl,hall⟩
    refine ex2 (hall v List.mem_cons_self) fun i t zr2=>?_;subst zr2
    show wpAny _ _ (pure true>>=_) _ _ _
    refine wpAny_bind (wpAny_pure ?_)
    simp only [Bool.not_true,Bool.false_eq_true,if_false]
    exact wpAny_pure ⟨rfl,rfl,fun u hu'=>hall u (List.mem_cons_of_mem _ hu')⟩
  · rintro ⟨r1,r2⟩ s' ⟨hr,rfl,_⟩
    simp only at hr
    subst hr
    exact wpAny_pure h
theorem Gn {n:Nat} {Q:Bool -> Shared -> Prop} (hk:TKey prog w s.heap k b) (h:Q false s):wpAny (model prog w) A (ofAClassStatement (n+1) (.ref b)) Q E s:=by
  have hT:=hk.typeIs
  refine ex3 hk fun o items m zz=>By zz fun ho _ hd hi=>?_
  unfold ofAClassStatement
  refine wpAny_bind (wpAny_typeOf hT ?_)
  show wpAny _ _ (pure true>>=_) _ _ s
  refine wpAny_bind (wpAny_pure ?_)
  simp only [Bool.not_true,Bool.false_eq_true,if_false]
  refine wpAny_bind (wpAny_seqItems ho hd ?_)
  refine wpAny_bind ?_
  show wpAny _ _ (forIn items _ _) _ _ s
  rw [<- Array.forIn_toList]
  refine wpAny_forIn_list _ (fun rest r s'=>r.1=none /\ s'=s /\ ∀ v∈rest,∃ i t,v=.int i t) _ ?_ ?_ _ _ ⟨rfl,rfl,Nu hi⟩
  · rintro v rest r s' ⟨hr,rfl,hall⟩
    refine ex2 (hall v List.mem_cons_self) fun i t zr2=>?_;subst zr2
    have e:ofAClassStatement n (.int i t)=pure false:=by unfold ofAClassStatement;rfl
    rw [e]
    refine wpAny_bind (wpAny_pure ?_)
    simp only [Bool.false_eq_true,if_false]
    exact wpAny_pure ⟨rfl,rfl,fun u hu'=>hall u (List.mem_cons_of_mem _ hu')⟩
  · rintro ⟨r1,r2⟩ s' ⟨hr,rfl,_⟩
    simp only at hr
    subst hr
    exact wpAny_pure h
theorem Sj {l:List Value} {Q:Bool -> Shared -> Prop} (hk:TKey prog w s.heap k b) (hl:∀ v∈l,∃ k' b',v=.ref b' /\ TKey prog w s.heap k' b') (h:Q false s):wpAny (model prog w) A (searchCouldBeSeen (.ref b) l) Q E s:=by
  unfold searchCouldBeSeen
  refine wpAny_bind ?_
  refine wpAny_forIn_list _ (fun rest r s'=>r.1=none /\ s'=s /\ ∀ v∈rest,∃ k' b',v=.ref b' /\ TKey prog w s.heap k' b') _ ?_ ?_ _ _ ⟨rfl,rfl,hl⟩
  · rintro v rest r s' ⟨hr,rfl,hall⟩
    refine ex2 (hall v List.mem_cons_self) fun k' b' zz=>Ac zz fun zr2 hk'=>?_;subst zr2
    have nx:∀ u∈rest,∃ k' b',u=.ref b' /\ TKey prog w s'.heap k' b':=fun u hu'=>hall u (List.mem_cons_of_mem _ hu')
    show wpAny _ _ (if ((b == b') || (carriedByValue (.ref b) && carriedByValue (.ref b')))=true then _ else _) _ _ _
    split
    · exact wpAny_pure ⟨rfl,rfl,nx⟩
    · refine wpAny_bind (wpAny_eqIsQuiet_tuple hk ?_)
      simp only [Bool.not_true,Bool.false_eq_true,if_false]
      refine wpAny_bind (wpAny_eqIsQuiet_tuple hk' ?_)
      simp only [Bool.not_true,Bool.false_eq_true,if_false]
      refine wpAny_bind (Gn hk ?_)
      simp only [Bool.false_eq_true,if_false]
      refine wpAny_bind (Gn hk' ?_)
      simp only [Bool.false_eq_true,if_false]
      exact wpAny_pure ⟨rfl,rfl,nx⟩
  · rintro ⟨r1,r2⟩ s' ⟨hr,rfl,_⟩
    simp only at hr
    subst hr
    exact wpAny_pure h
theorem TOk.fits (T:TOk t es):t.fits es.size=true:=by
  unfold SetTable.fits SetTable.fill
  rw [T.dum,T.size]
  simp only [beq_self_eq_true,Bool.true_and,decide_eq_true_eq]
  have:=T.room
  rw [T.size] at this
  exact this
theorem Msk.odd {m:Nat} (h:Msk m):(m % 2 == 0)=false:=by rcases h with rfl | rfl | rfl <;> rfl
set_option backward.match.sparseCases true in
set_option tactic.hygienic true in
theorem Hv {n K:Nat} (hu:A.units < cLine) (ho:s.heap.get? a=some o) (hd:o.data=.set es ep t) (T:TOk t es) {ks:List (List Int × Addr)} (he:es.toList=ks.map (Afk prog w)) (hk:TKey prog w s.heap k b) (hks:∀ p∈ks,TKey prog w s.heap p.1 p.2) (X:Fst t.mask (Tk t.place) (Bp prog w k) n K):∀ (fuel j:Nat) (st:Option Probe) {Q:SetFound -> Shared -> Prop},st.getD (t.probeStart (Bp prog w k))=stp t.mask (Bp prog w k) j -> j <= K -> K - j < fuel ->
    ((∃ k0 i0:Nat,∃ p,j <= k0 /\ k0 < K /\ t.place[i0]?=some (stp t.mask (Bp prog w k) k0).j /\ ks[i0]?=some p /\ p.1=k) -> Q (.there none) s) ->
    ((∀ p∈ks,p.1≠k) -> Q (.free (stp t.mask (Bp prog w k) K).j false) s) ->
    ((∃ k0 i0:Nat,∃ p,j <= k0 /\ k0 < K /\ t.place[i0]?=some (stp t.mask (Bp prog w k) k0).j /\ ks[i0]?=some p /\ p.1=k) \/ (∀ p∈ks,p.1≠k)) ->
    wpAny (model prog w) A (setSearchFrom a (.ref b) (Bp prog w k) true fuel st) Q E s
  | 0,_,_,_,_,_,h,_,_,_=>absurd h (Nat.not_lt_zero _)
  | fuel+1,j,st,Q,hst,hj,hf,q1,q2,q3=>by
    unfold setSearchFrom
    refine wpAny_bind (wpAny_setState_of ho hd T.fits ?_)
    dsimp only
    rw [if_neg (by unfold SetTable.gaveWay;rw [T.msk.odd];exact Bool.false_ne_true)]
    have es_at:∀ (i:Nat) p,ks[i]?=some p -> es[i]?=some (Afk prog w p):=fun i p h=>by rw [<- Array.getElem?_toList,he,List.getElem?_map,h];rfl
    have ks_at:∀ (i:Nat) e,es[i]?=some e -> ∃ p,ks[i]?=some p /\ e=Afk prog w p:=fun i e h=>by
      rw [<- Array.getElem?_toList,he,List.getElem?_map] at h
      refine ex1 (Option.map_eq_some_iff.mp h) fun p zz=>Ac zz fun h1 h2=>?_
      exact ⟨p,h1,h2.symm⟩
    have G:=Uy T (fun i=>((es[i]?).map (·.1)).getD 0) X (10 * SetTable.turns t.mask) j hj (by have:=X.few';unfold SetTable.turns;omega)
    split
    · next met hm =>
      have hm:probe.go t (fun i=>((es[i]?).map (·.1)).getD 0) (Bp prog w k) (10 * SetTable.turns t.mask) (stp t.mask (Bp prog w k) j)=some met:=by rw [<- hst];exact hm
      rcases G with ⟨k1,i,a1,a2,a3,a4,a5,a6⟩ | ⟨b1,b2⟩
      · rw [a6] at hm
        obtain rfl:=(Option.some.inj hm).symm
        dsimp only
        have lt:i < es.size:=T.size▸Cz a3
        refine ex1 (ks_at i _ (Array.getElem?_eq_getElem lt)) fun p zz=>Ac zz fun hp ep'=>?_
        have ei:=es_at i p hp
        have tail:wpAny (model prog w) A (do
            let some (_,y):=es[i]? | unsupported "internal:set-entry"
            let equal <- holding [y] (eqBool y (.ref b))
            let (es',_,t') <- setState a
            if true && equal then return SetFound.there none
            let some same:=t'.sameMemory t.moves t.mask | unsupported "set.changed-during-lookup:is-the-new-block-at-the-old-address"
            let still <- match (if same then t'.slot (stp t.mask (Bp prog w k) k1).j else .empty) with
              | .live i'=>match es'[i']? with
                | some (_,y')=>do pure (if <- isSame y' y then some i' else none)
                | none=>pure none
              | _=>pure none
            match still with
            | none=>rule "set.search.anew";setSearchFrom a (.ref b) (Bp prog w k) true fuel none
            | some i'=>if equal then return .there (some i') else setSearchFrom a (.ref b) (Bp prog w k) true fuel (some (stp t.mask (Bp prog w k) (k1+1)))) Q E s:=by
          rw [ei]
          show wpAny _ _ (holding [Value.ref p.2] (eqBool (.ref p.2) (.ref b))>>=_) _ _ _
          refine wpAny_bind (wpAny_holding (wpAny_eqBool_tuple hu (hks p (List.mem_of_getElem? hp)) hk ?_))
          refine wpAny_bind (wpAny_setState_of ho hd T.fits ?_)
          dsimp only
          by_cases c:p.1=k
          · rw [decide_eq_true c]
            exact wpAny_pure (q1 ⟨k1,i,p,a1,a2,a3,hp,c⟩)
          · rw [decide_eq_false c]
            simp only [Bool.and_false,Bool.false_eq_true,if_false]
            have sm:t.sameMemory t.moves t.mask=some true:=by unfold SetTable.sameMemory;rw [if_pos (beq_self_eq_true _)]
            rw [sm]
            dsimp only
            rw [if_pos rfl,Nq T.rise a3]
            dsimp only
            rw [ei]
            show wpAny _ _ (isSame (.ref p.2) (.ref p.2)>>=_) _ _ _
            refine wpAny_bind (wpAny_isSame_ref_self (wpAny_bind (wpAny_pure ?_)))
            rw [if_pos rfl]
            dsimp only
            have mv:(∃ k0 i0:Nat,∃ p,j <= k0 /\ k0 < K /\ t.place[i0]?=some (stp t.mask (Bp prog w k) k0).j /\ ks[i0]?=some p /\ p.1=k) -> (∃ k0 i0:Nat,∃ p,k1+1 <= k0 /\ k0 < K /\ t.place[i0]?=some (stp t.mask (Bp prog w k) k0).j /\ ks[i0]?=some p /\ p.1=k):=by
              intro zz
              refine ex3 zz fun k0 i0 p0 zz=>Fe zz fun c1 c2 c3 c4 c5=>?_
              refine ⟨k0,i0,p0,?_,c2,c3,c4,c5⟩
              refine Nat.not_le.mp fun le=>?_
              by_cases d:k0=k1
              · rw [d] at c3
                have:=(Gm T.rise c3).symm.trans (Gm T.rise a3)
                rw [this,hp] at c4
                exact c (Option.some.inj c4▸c5)
              · refine a5 k0 c1 (by exact Anq le d) i0 c3 ?_
                show ((es[i0]?).map (·.1)).getD 0=_
                rw [es_at i0 p0 c4,<- c5];rfl
            refine Hv hu ho hd T he hk hks X fuel (k1+1) (some (stp t.mask (Bp prog w k) (k1+1))) rfl a2 (by omega) (fun q=>?_) q2 (q3.imp mv id)
            refine ex3 q fun k0 i0 p0 zz=>Ac zz fun c1 c2=>?_
            exact q1 ⟨k0,i0,p0,by exact Anr c1 a1,c2⟩
        by_cases led:(!t.led)=true
        · rw [if_pos led]
          refine wpAny_bind (Sj hk (fun v hv=>?_) ?_)
          · refine ex1 (List.mem_map.mp hv) fun e zz=>Ac zz fun h1 zr2=>?_;subst zr2
            have h2:e∈es.toList:=by
              have:=Array.mem_toList_iff.mp h1
              exact Array.mem_toList_iff.mpr (Array.mem_filter.mp this).1
            rw [he] at h2
            refine ex1 (List.mem_map.mp h2) fun p zz=>Ac zz fun h3 zr2=>?_;subst zr2
            exact ⟨p.1,p.2,rfl,hks p h3⟩
          · simp only [Bool.false_eq_true,if_false]
            exact tail
        · rw [if_neg led]
          exact tail
      · rw [b2] at hm
        obtain rfl:=(Option.some.inj hm).symm
        dsimp only
        refine wpAny_pure ?_
        rcases q3 with ⟨k0,i0,p0,c1,c2,c3,c4,c5⟩ | q3
        · refine absurd ?_ (b1 k0 c1 c2 i0 c3)
          show ((es[i0]?).map (·.1)).getD 0=_
          rw [es_at i0 p0 c4,<- c5];rfl
        · exact q2 q3
    · next hm =>
      rcases G with ⟨k1,i,a1,a2,a3,a4,a5,a6⟩ | ⟨b1,b2⟩
      · rw [<- hst] at a6;exact (hm _ a6).elim
      · rw [<- hst] at b2;exact (hm _ b2).elim
end
section
variable {prog:Program} {w:World} {A:Around} {E:Value -> Shared -> Prop} {s:Shared} {a b:Addr} {k:List Int} {led:Bool} {ks:List (List Int × Addr)}
structure KSet (prog:Program) (w:World) (h:Heap) (a:Addr) (led:Bool) (ks:List (List Int × Addr)):Prop where
  ex:∃ o es ep t,h.get? a=some o /\ o.ExactSet /\ o.data=.set es ep t /\ TOk t es /\ es.size * 5 < t.mask * 3 /\ es.toList=ks.map (Afk prog w) /\ t.led=led /\ t.plain=true
  nodup:(ks.map (·.1)).Nodup
  keys:∀ p∈ks,TKey prog w h p.1 p.2
theorem Md {α β:Type} {f:α -> β} {l l':List β} (p:l.Perm l'):∀ ks:List α,l'=ks.map f -> ∃ ks':List α,ks'.Perm ks /\ l=ks'.map f:=by
  induction p with
  | nil=>intro ks h;exact ⟨ks,List.Perm.refl _,h⟩
  | cons x _ ih =>
    intro ks h
    match ks,h with
    | k :: ks,h =>
      rw [List.map_cons] at h
      injection h with h1 h2
      refine ex1 (ih ks h2) fun ks' zz=>Ac zz fun p e=>?_
      exact ⟨k :: ks',p.cons k,by rw [List.map_cons,e,h1]⟩
  | swap x y l =>
    intro ks h
    match ks,h with
    | k1 :: k2 :: ks,h =>
      rw [List.map_cons,List.map_cons] at h
      injection h with h1 h2
      injection h2 with h2 h3
      exact ⟨k2 :: k1 :: ks,List.Perm.swap _ _ _,by rw [List.map_cons,List.map_cons,h1,h2,h3]⟩
    | [k1],h=>cases h
    | [],h=>cases h
  | trans _ _ ih1 ih2 =>
    intro ks h
    refine ex1 (ih2 ks h) fun k2 zz=>Ac zz fun p2 e2=>?_
    refine ex1 (ih1 k2 e2) fun k1 zz=>Ac zz fun p1 e1=>?_
    exact ⟨k1,p1.trans p2,e1⟩
theorem Nw {h h':Heap} {o:Obj} (hk:TKey prog w h k b) (ho:h.get? a=some o) (hc:o.ExactSet) (hs:Heap.SameBut a h h'):TKey prog w h' k b:=by
  refine ex3 hk fun o' items n zz=>By zz fun ho' hc' hd' hi=>?_
  have hne:b≠a:=by
    rintro rfl
    obtain rfl:o'=o:=Option.some.inj (ho'.symm.trans ho)
    rw [hc.1] at hc';exact absurd hc' (by decide)
  exact ⟨o',items,n,(hs.2 b hne).trans ho',hc',hd',hi⟩
theorem KSet.toks {h:Heap} (X:KSet prog w h a led ks):KSet prog w h a led ks:=X
set_option maxHeartbeats 1000000 in
theorem Ada {Q:Bool -> Shared -> Prop} (hu:A.units < cLine) (X:KSet prog w s.heap a led ks) (hk:TKey prog w s.heap k b) (few:ks.length < 64)
    (q:∀ h' ks' r,Heap.SameBut a s.heap h' -> KSet prog w h' a led ks' -> ((∃ p∈ks,p.1=k) /\ ks'=ks \/ (∀ p∈ks,p.1≠k) /\ ks'.Perm (ks++[(k,b)])) -> Q r { s with heap:=h',toks:=s.toks+(k.length+1) }) :
    wpAny (model prog w) A (setAdd a (.ref b)) Q E s:=by
  unfold setAdd
  refine wpAny_holding (wpAny_bind (wpAny_pyHash_tuple hu hk ?_))
  show wpAny _ _ (setAddHashed a (.ref b) (Bp prog w k)) _ _ _
  unfold setAddHashed setAddHashedIn
  refine ex4 X.ex fun o es ep t zz=>Ah1 zz fun ho hex hd T thin he hl hp=>?_
  have len:es.size=ks.length:=by have:=congrArg List.length he;rwa [Array.length_toList,List.length_map] at this
  refine wpAny_holding (wpAny_bind (wpAny_setState_of ho hd T.fits ?_))
  dsimp only
  rw [show byScan (.ref b) es=false from rfl]
  simp only [Bool.false_eq_true,if_false]
  refine ex2 (T.first (Bp prog w k)) fun n K F=>?_
  show wpAny _ _ (setSearchFrom a (.ref b) (Bp prog w k) true 100000 none>>=_) _ _ _
  have kb:K < 100000:=by
    have:=F.few'
    rcases T.msk with e | e | e <;> rw [e] at this <;> omega
  refine wpAny_bind (Hv (s:={ s with toks:=s.toks+(k.length+1) }) hu ho hd T he hk X.keys F 100000 0 none rfl (Nat.zero_le _) (by assumption) (fun hit=>?_) (fun nw=>?_) ?_)
  · dsimp only
    refine ex3 hit fun k0 i0 p zz=>Fe zz fun _ _ _ h1 h2=>?_
    exact wpAny_pure (q s.heap ks false (Heap.SameBut.refl a s.heap) X (.inl ⟨⟨p,List.mem_of_getElem? h1,h2⟩,rfl⟩))
  · dsimp only
    refine wpAny_bind (wpAny_setState_of (s:={ s with toks:=s.toks+(k.length+1) }) ho hd T.fits ?_)
    dsimp only
    have rm:t.place.size+1 <= t.mask:=by
      rw [T.size]
      rcases T.msk with e | e | e <;> rw [e] at thin ⊢ <;> omega
    have T1:=T.put F (.ref b) rm
    have pe:=Aa5 T (stp t.mask (Bp prog w k) K).j
    have m1:(t.put (stp t.mask (Bp prog w k) K).j).1.mask=t.mask:=by rw [pe]
    have l1:(t.put (stp t.mask (Bp prog w k) K).j).1.led=led:=by rw [pe];exact hl
    have q1:(t.put (stp t.mask (Bp prog w k) K).j).1.plain=true:=by rw [pe];exact hp
    clear pe
    generalize t.put (stp t.mask (Bp prog w k) K).j=tp at T1 m1 l1 q1
    obtain ⟨t1,p1⟩:=tp
    dsimp only at T1 m1 l1 q1 ⊢
    rw [if_pos q1]
    refine wpAny_bind (Nv (s:={ s with toks:=s.toks+(k.length+1) }) hk ?_)
    rw [if_pos rfl]
    have s1:(insertAt es p1 (Bp prog w k,Value.ref b)).size=es.size+1:=Ij _ _ _
    refine wpAny_bind (wpAny_storeSet_of (s:={ s with toks:=s.toks+(k.length+1) }) ho hd ?_ (by rw [s1,sizeLine_eq];exact Ans few s1 len))
    have hg:(s.heap.update a (Obj.putSet (insertAt es p1 (Bp prog w k,Value.ref b)) t1)).get? a=some { o with data:=.set (insertAt es p1 (Bp prog w k,Value.ref b)) (ep+1) t1 }:=by
      have:=Heap.get?_update_self (Obj.putSet (insertAt es p1 (Bp prog w k,Value.ref b)) t1) ho (by rw [putSet_of _ _ hd];rfl)
      rw [putSet_of _ _ hd] at this;exact this
    have sb:=Heap.SameBut.update s.heap a (Obj.putSet (insertAt es p1 (Bp prog w k,Value.ref b)) t1)
    refine ex1 (Md (f:=Afk prog w) (SetTable.insertAt_perm es p1 (Bp prog w k,Value.ref b)) (ks++[(k,b)]) (by rw [Array.toList_push,List.map_append,he];rfl)) fun ks1 zz=>Ac zz fun pk ek=>?_
    have nd:∀ ks',List.Perm ks' (ks++[(k,b)]) -> (ks'.map (·.1)).Nodup:=fun ks' p=>by
      rw [(p.map (·.1)).nodup_iff,List.map_append]
      refine List.nodup_append.mpr ⟨X.nodup,by simp,fun x hx y hy e=>?_⟩
      refine ex1 (List.mem_map.mp hx) fun z zz=>Ac zz fun hz zr2=>?_;subst zr2
      rw [List.map_cons,List.map_nil,List.mem_singleton] at hy
      exact nw z hz (e.trans hy)
    have kk:∀ h',Heap.SameBut a s.heap h' -> ∀ ks',List.Perm ks' (ks++[(k,b)]) -> ∀ p∈ks',TKey prog w h' p.1 p.2:=fun h' sb ks' p x hx=>by
      rcases List.mem_append.mp (p.mem_iff.mp hx) with hx | hx
      · exact Nw (X.keys x hx) ho hex sb
      · rw [List.mem_singleton.mp hx];exact Nw hk ho hex sb
    by_cases tf:(!false && t1.tooFull)=true
    · rw [if_pos tf]
      have full:(es.size+1) * 5 ≥ t.mask * 3:=by
        have:t1.tooFull=true:=tf
        unfold SetTable.tooFull SetTable.fill at this
        rw [T1.dum,T1.size,s1,m1] at this
        simpa using this
      have big:∃ m,sizeAbove (grown (es.size+1))=m+1 /\ Msk m /\ m <= 127 /\ (es.size+1) * 5 < m * 3 /\ es.size+1 <= m:=by
        rcases T.msk with e | e | e
        · rw [e] at full thin
          rw [show es.size+1=5 by exact Ant full thin s1]
          exact ⟨31,by decide +kernel,.inr (.inl rfl),by decide,by decide,by decide⟩
        · rw [e] at full thin
          rw [show es.size+1=19 by exact Anu full thin s1]
          exact ⟨127,by decide +kernel,.inr (.inr rfl),by decide,by decide,by decide⟩
        · rw [e] at full;exact (Anv full few s1 len).elim
      refine ex1 big fun m zz=>Fe zz fun hm mm m127 thin2 rm2=>?_
      unfold setRelay
      refine wpAny_bind (wpAny_bind (wpAny_setState_of (s:={ s with heap:=_,toks:=s.toks+(k.length+1) }) hg rfl T1.fits ?_))
      dsimp only
      rw [hm,if_neg (by rw [sizeLine_eq];exact Anw m127)]
      refine ex2 (Ac9 (m:=m) (f:=t1.finger) (mv:=t1.movedTo m) (led:=t1.led) (plain:=t1.plain) mm (es:=insertAt es p1 (Bp prog w k,Value.ref b)) (by rw [s1];exact rm2)) fun t2 order zz=>R6 zz fun e2 x1 x2 x3 x4 x5 x6=>?_
      have e3:t1.relaid ((insertAt es p1 (Bp prog w k,Value.ref b)).map (·.1)) (grown (es.size+1))=some (t2,order):=by
        unfold SetTable.relaid
        rw [hm];exact e2
      rw [e3]
      refine wpAny_bind ?_
      show wpAny _ _ (if ((order.filterMap ((insertAt es p1 (Bp prog w k,Value.ref b))[·]?)).size != (insertAt es p1 (Bp prog w k,Value.ref b)).size)=true then _ else _) _ _ _
      rw [x4,if_neg (by simp)]
      refine wpAny_pure ?_
      dsimp only
      refine wpAny_storeSet_of (s:={ s with heap:=_,toks:=s.toks+(k.length+1) }) hg rfl ?_ (by rw [x4,s1,sizeLine_eq];exact Anx few s1 len x4)
      refine wpAny_pure ?_
      refine ex1 (Md (f:=Afk prog w) x6 ks1 ek) fun ks2 zz=>Ac zz fun pk2 ek2=>?_
      have hg2:=Heap.get?_update_self (Obj.putSet (order.filterMap ((insertAt es p1 (Bp prog w k,Value.ref b))[·]?)) t2) hg (by rw [putSet_of _ _ rfl];rfl)
      rw [putSet_of _ _ rfl] at hg2
      have sb2:=sb.trans (Heap.SameBut.update (s.heap.update a (Obj.putSet (insertAt es p1 (Bp prog w k,Value.ref b)) t1)) a (Obj.putSet (order.filterMap ((insertAt es p1 (Bp prog w k,Value.ref b))[·]?)) t2))
      exact q _ ks2 true sb2 ⟨⟨_,_,_,t2,hg2,hex,rfl,x5,by rw [x4,s1,x1];exact thin2,ek2,x2.trans l1,x3.trans q1⟩,nd ks2 (pk2.trans pk),kk _ sb2 ks2 (pk2.trans pk)⟩ (.inr ⟨nw,pk2.trans pk⟩)
    · rw [if_neg tf]
      have full:(es.size+1) * 5 < t.mask * 3:=by
        have:¬ (t1.tooFull=true):=tf
        unfold SetTable.tooFull SetTable.fill at this
        rw [T1.dum,T1.size,s1,m1] at this
        simpa using this
      refine wpAny_pure ?_
      exact q _ ks1 true sb ⟨⟨_,_,_,t1,hg,hex,rfl,T1,by rw [s1,m1];exact full,ek,l1,q1⟩,nd ks1 pk,kk _ sb ks1 pk⟩ (.inr ⟨nw,pk⟩)
  · by_cases c:∃ p∈ks,p.1=k
    · refine ex1 c fun p zz=>Ac zz fun hp' zr2=>?_;subst zr2
      obtain ⟨i,hi⟩:=List.getElem?_of_mem hp'
      have ei:es[i]?=some (Bp prog w p.1,.ref p.2):=by rw [<- Array.getElem?_toList,he,List.getElem?_map,hi];rfl
      have il:i < t.place.size:=by rw [T.size];exact Cz ei
      have ep':=Array.getElem?_eq_getElem il
      refine ex1 (T.way i _ _ _ ep' ei) fun k0 zz=>Ac zz fun e0 al=>?_
      refine .inl ⟨k0,i,p,Nat.zero_le _,Nat.not_le.mp fun le=>?_,by rw [e0];exact ep',hi,rfl⟩
      by_cases d:K=k0
      · rw [<- d] at e0
        exact F.free ⟨i,by rw [e0];exact ep'⟩
      · exact F.free (al K (by exact Any il le d))
    · exact .inr fun p hp' e=>c ⟨p,hp',e⟩
end
end Mine.Internal
set_option maxRecDepth 100000
namespace Mine.Internal
open PySem PySem.SetTable PyProof.Rows PySem.W PySem.Calls
theorem Cn:Slot "set_iterator" "__next__" "set_iterator.__next__" :=
  .of (owner:="set_iterator") (n:="__next__") (by rw [typeLookup_type,builtinLookup_eq_fast];kernel_rfl) (by decide +kernel) (by decide +kernel) (by decide +kernel)
    (by first | exact .inl (by decide +kernel) | exact .inr (by decide +kernel)) (by rw [isSubtype_type];kernel_rfl)
theorem Go:entryFor table "set_iterator.__next__"=some Builtin.«set_iterator.__next__»:=entryFor_of_tree (by kernel_rfl)
theorem Hw (a:Value):argsOk "set_iterator.__next__" ⟨[a],[]⟩:=by
  unfold argsOk;kernel_rfl
theorem Hx:Slot "set_iterator" "__iter__" "set_iterator.__iter__" :=
  .of (owner:="set_iterator") (n:="__iter__") (by rw [typeLookup_type,builtinLookup_eq_fast];kernel_rfl) (by decide +kernel) (by decide +kernel) (by decide +kernel)
    (by first | exact .inl (by decide +kernel) | exact .inr (by decide +kernel)) (by rw [isSubtype_type];kernel_rfl)
theorem Me:entryFor table "set_iterator.__iter__"=some Builtin.«dict_keyiterator.__iter__» :=
  entryFor_alias (id':="dict_keyiterator.__iter__") (by kernel_rfl) rfl (by decide +kernel) (by kernel_rfl)
theorem Nx (a:Value):argsOk "set_iterator.__iter__" ⟨[a],[]⟩:=by
  unfold argsOk;kernel_rfl
theorem Kj:entryFor table "set.__iter__"=some Builtin.«frozenset.__iter__» :=
  entryFor_alias (id':="frozenset.__iter__") (by kernel_rfl) rfl (by decide +kernel) (by kernel_rfl)
section
variable {prog:Program} {w:World} {A:Around} {E:Value -> Shared -> Prop} {s:Shared} {it d:Addr} {es:Array (Int × Value)} {ep:Nat} {t:SetTable}
structure RawS (h:Heap) (d:Addr) (es:Array (Int × Value)) (ep:Nat) (t:SetTable):Prop where
  ex:∃ o,h.get? d=some o /\ o.ExactSet /\ o.data=.set es ep t
theorem RawS.type (x:RawS s.heap d es ep t):s.TypeIs (.ref d) "set":=let ⟨o,ho,hc,_⟩:=x.ex;⟨o,ho,hc.1⟩
theorem RawS.at {h h':Heap} (x:RawS h d es ep t) (e:∀ o,h.get? d=some o -> h'.get? d=some o):RawS h' d es ep t:=let ⟨o,ho,r⟩:=x.ex;⟨o,e o ho,r⟩
theorem RawS.lt {h:Heap} (x:RawS h d es ep t):d < h.objs.size:=let ⟨_,ho,_⟩:=x.ex;Heap.lt_size ho
noncomputable def F5 (w:World):Bool:=w.params.followText "set-order"
noncomputable def Xp (h:Heap) (it d:Addr) (sl i n ep:Nat):Prop:=∃ o,h.get? it=some o /\ o.cls=.type "set_iterator" /\ o.data=.fields #[.int sl 0,.int i 0,.ref d,.int n 0,.int ep 0]
theorem Xp.at {h h':Heap} {sl i n:Nat} (x:Xp h it d sl i n ep) (e:∀ o,h.get? it=some o -> h'.get? it=some o):Xp h' it d sl i n ep:=let ⟨o,ho,r⟩:=x;⟨o,e o ho,r⟩
theorem Xp.type {sl i n:Nat} (x:Xp s.heap it d sl i n ep):s.TypeIs (.ref it) "set_iterator":=let ⟨o,ho,hc,_⟩:=x;⟨o,ho,hc⟩
noncomputable def Q5 (w:World) (d:Addr) (es:Array (Int × Value)) (ep:Nat):Array (Int × Value):=if F5 w then pickOrder (w.params.setOrder d ep) es else es
theorem He {Q:Bool -> Shared -> Prop} (q:Q (F5 w) s):wpAny (model prog w) A setsByText Q E s:=by
  unfold setsByText
  exact wpAny_bind (wpAny_askSetting (wpAny_pure q))
theorem Yy {Q:Value -> Shared -> Prop} (x:RawS s.heap d es ep t) (T:TOk t es) (pl:t.plain=true) (q:Q (.ref s.heap.objs.size) { s with heap:=s.heap.push { cls:=.type "set_iterator",data:=.fields #[.int 0 0,.int 0 0,.ref d,.int es.size 0,.int ep 0] } }):wpAny (model prog w) A (pyIter (.ref d)) Q E s:=by
  refine ex1 x.ex fun o zz=>As zz fun ho hc hd=>?_
  refine wpAny_pyIter_slot x.type F.slot_set_iter (wpAny_call_entry F.slot_set_iter x.type Kj ?_ (F.args_set_iter_1 _))
  unfold Builtin.«frozenset.__iter__»
  refine wpAny_bind (m:=Builtin.Frozenset.slot0 _ _) (wpAny_pure ?_)
  refine wpAny_bind ?_
  unfold Builtin.Frozenset.sizeOf
  refine wpAny_bind (wpAny_setEntries_of ho hd T.fits (wpAny_pure ?_))
  refine wpAny_bind ?_
  unfold setDrawn
  refine wpAny_bind (wpAny_setState_of ho hd T.fits (wpAny_bind (He (wpAny_pure ?_))))
  dsimp only
  rw [if_neg (by
    show ¬ ((!F5 w && (!t.plain && decide (es.size > 1)))=true)
    rw [pl];simp)]
  refine wpAny_bind (wpAny_pure (wpAny_bind (wpAny_setEpoch_of ho hd T.fits ?_)))
  exact wpAny_bind (wpAny_newObj_type (wpAny_pure ⟨_,rfl,"set_iterator",_,⟨_,Heap.get?_push_size _ rfl,rfl⟩,Cn.lookup,q⟩))
theorem Sk {α:Type} {l:List α} {i:Nat} (h:i < l.length):(l[i] :: l.eraseIdx i).Perm l:=by
  rw [List.eraseIdx_eq_take_drop_succ]
  refine List.perm_middle.symm.trans ?_
  rw [List.getElem_cons_drop h,List.take_append_drop]
theorem U1 {α:Type} (nx:Nat -> Nat):∀ (fuel k:Nat) (left:List α) (out:Array α),left.length=fuel -> (pickOrder.go nx fuel k left out).toList.Perm (out.toList++left)
  | 0,_,left,out,h=>by
    rw [List.length_eq_zero_iff] at h
    rw [h,List.append_nil];exact List.Perm.refl _
  | fuel+1,k,left,out,h=>by
    have lt:nx k % left.length < left.length:=Nat.mod_lt _ (by exact Anz h)
    unfold pickOrder.go
    rw [List.getElem?_eq_getElem lt]
    dsimp only
    refine (U1 nx fuel (k+1) _ _ (by rw [List.length_eraseIdx];rw [if_pos lt];exact An0 h)).trans ?_
    rw [Array.toList_push,List.append_assoc]
    refine List.Perm.append_left _ ?_
    exact Sk lt
theorem Ny (w:World) (d:Addr) (es:Array (Int × Value)) (ep:Nat):(Q5 w d es ep).toList.Perm es.toList:=by
  unfold Q5
  split
  · exact U1 _ es.size 0 es.toList #[] (by simp)
  · exact List.Perm.refl _
theorem Nz (w:World) (d:Addr) (es:Array (Int × Value)) (ep:Nat):(Q5 w d es ep).size=es.size:=by
  rw [<- Array.length_toList,(Ny w d es ep).length_eq,Array.length_toList]
noncomputable def At (w:World) (t:SetTable) (sl i:Nat):Prop:=F5 w=false -> below t.place sl=i
set_option backward.match.sparseCases true in
set_option tactic.hygienic true in
theorem Q6 {sl i:Nat} {Q:Option (Value × Nat) -> Shared -> Prop} (x:RawS s.heap d es ep t) (T:TOk t es) (pl:t.plain=true) (ld:t.led=!F5 w) (at':At w t sl i)
    (q1:∀ e sl',(Q5 w d es ep)[i]?=some e -> At w t sl' (i+1) -> Q (some (e.2,sl')) s) (q2:(Q5 w d es ep)[i]?=none -> Q none s):wpAny (model prog w) A (setNext d sl i ep) Q E s:=by
  refine ex1 x.ex fun o zz=>As zz fun ho hc hd=>?_
  unfold setNext
  refine wpAny_bind (wpAny_setState_of ho hd T.fits ?_)
  dsimp only
  refine wpAny_bind (He ?_)
  by_cases b:F5 w=true
  · rw [if_pos b,if_neg (by simp)]
    refine wpAny_bind ?_
    unfold setWalk
    refine wpAny_bind (wpAny_setState_of ho hd T.fits ?_)
    dsimp only
    refine wpAny_bind (He ?_)
    rw [if_pos b]
    refine wpAny_bind (wpAny_askSetting (wpAny_pure (wpAny_pure ?_)))
    have ew:pickOrder (w.params.setOrder d ep) es=Q5 w d es ep:=by unfold Q5;rw [if_pos b]
    show Q (((pickOrder (w.params.setOrder d ep) es)[i]?).map fun e=>(e.2,sl)) s
    rw [ew]
    cases h:(Q5 w d es ep)[i]? with
    | none=>exact q2 h
    | some e=>exact q1 e sl h fun c=>absurd (c.symm.trans b) (by decide)
  · have b:F5 w=false:=by simpa using b
    rw [b] at ld
    rw [b]
    simp only [Bool.false_eq_true,if_false]
    rw [if_neg (by
      show ¬ ((!t.plain && decide (es.size > 1))=true)
      rw [pl];simp)]
    refine wpAny_bind ?_
    show wpAny _ _ (if (!t.led && !es.isEmpty)=true then _ else _) _ _ _
    rw [if_neg (by rw [ld];simp)]
    refine wpAny_pure ?_
    have ew:Q5 w d es ep=es:=by unfold Q5;rw [b];rfl
    rw [ew] at q1 q2
    have bl:=at' b
    refine wpAny_pure ?_
    show Q (match es[below t.place sl]?,t.place[below t.place sl]? with
      | some (_,x),some j=>some (x,j+1)
      | _,_=>none) s
    rw [bl]
    cases h:es[i]? with
    | none=>exact q2 h
    | some e =>
      have il:i < t.place.size:=T.size▸Cz h
      have ej:=Array.getElem?_eq_getElem il
      rw [ej]
      exact q1 e _ h fun _=>Sg T.rise ej
theorem Adb {sl i:Nat} {e:Int × Value} {Q:Option Value -> Shared -> Prop} (hit:Xp s.heap it d sl i es.size ep) (x:RawS s.heap d es ep t) (T:TOk t es) (pl:t.plain=true) (ld:t.led=!F5 w) (at':At w t sl i) (he:(Q5 w d es ep)[i]?=some e)
    (q:∀ h' sl',Xp h' it d sl' (i+1) es.size ep -> At w t sl' (i+1) -> Heap.SameBut it s.heap h' -> Q (some e.2) { s with heap:=h' }):wpAny (model prog w) A (pyNext (.ref it)) Q E s:=by
  refine ex1 (id hit) fun o zz=>As zz fun ho hc hd=>?_
  refine ex1 x.ex fun od zz=>As zz fun hod _ hdd=>?_
  unfold pyNext
  refine wpAny_bind (wpAny_attempt (wpAny_callSpecial?_slot (name:=Str.ofString "__next__") hit.type Cn (wpAny_call_entry Cn hit.type Go ?_ (Hw _))))
  unfold Builtin.«set_iterator.__next__»
  refine wpAny_bind (m:=slotArgs _ _ _) (wpAny_pure ?_)
  refine wpAny_bind (wpAny_fieldsOf ho hd ?_)
  dsimp only
  refine wpAny_bind (wpAny_setEntries_of hod hdd T.fits ?_)
  rw [if_neg (by simp)]
  refine wpAny_bind ?_
  rw [Int.toNat_natCast,Int.toNat_natCast,Int.toNat_natCast]
  refine Q6 x T pl ld at' (fun e' sl' h1 h2=>?_) (fun h=>absurd (h.symm.trans he) (by simp))
  obtain rfl:=Option.some.inj (h1.symm.trans he)
  dsimp only
  refine wpAny_bind (wpAny_setField ho hd (by simp) ?_)
  have hg1:=Heap.get?_update_self (h:=s.heap) (Obj.mapFields (·.setIfInBounds 0 (rawInt (sl':Int)))) ho (Obj.isFreed_of_fields (Obj.data_mapFields hd _))
  refine wpAny_bind (wpAny_setField (s:={ s with heap:=_ }) hg1 (Obj.data_mapFields hd _) (by simp) ?_)
  refine wpAny_pure ⟨_,rfl,wpAny_pure (q _ sl' ?_ h2 ((Heap.SameBut.update ..).trans (Heap.SameBut.update ..)))⟩
  refine ⟨_,Heap.get?_update_self _ hg1 (Obj.isFreed_of_fields (Obj.data_mapFields (Obj.data_mapFields hd _) _)),?_,?_⟩
  · rw [Obj.cls_mapFields,Obj.cls_mapFields];exact hc
  · rw [Obj.data_mapFields (Obj.data_mapFields hd _)];simp [rawInt]
theorem Agr {sl i:Nat} {Q:Option Value -> Shared -> Prop} (hh:A.handled=none) (hit:Xp s.heap it d sl i es.size ep) (x:RawS s.heap d es ep t) (T:TOk t es) (pl:t.plain=true) (ld:t.led=!F5 w) (at':At w t sl i) (he:(Q5 w d es ep)[i]?=none)
    (q:∀ h',Heap.ExtBut it s.heap h' -> Q none { s with heap:=h' }):wpAny (model prog w) A (pyNext (.ref it)) Q E s:=by
  refine ex1 (id hit) fun o zz=>As zz fun ho hc hd=>?_
  refine ex1 x.ex fun od zz=>As zz fun hod _ hdd=>?_
  unfold pyNext
  refine wpAny_bind (wpAny_attempt (wpAny_callSpecial?_slot (name:=Str.ofString "__next__") hit.type Cn (wpAny_call_entry Cn hit.type Go ?_ (Hw _))))
  unfold Builtin.«set_iterator.__next__»
  refine wpAny_bind (m:=slotArgs _ _ _) (wpAny_pure ?_)
  refine wpAny_bind (wpAny_fieldsOf ho hd ?_)
  dsimp only
  refine wpAny_bind (wpAny_setEntries_of hod hdd T.fits ?_)
  rw [if_neg (by simp)]
  refine wpAny_bind ?_
  rw [Int.toNat_natCast,Int.toNat_natCast,Int.toNat_natCast]
  refine Q6 x T pl ld at' (fun e' sl' h1 h2=>absurd (h1.symm.trans he) (by simp)) (fun h=>?_)
  dsimp only
  refine wpAny_bind (wpAny_setField ho hd (by simp) ?_)
  show wpAny _ _ (newExc (.type "StopIteration") []>>=_) _ _ _
  refine wpAny_bind ?_
  simp only [newExc,newTuple]
  refine wpAny_bind (wpAny_newObj_type ?_ (by size_fits))
  refine wpAny_bind (m:=firstArgMember _ _) (wpAny_of_eq (a:=Value.none) (by first | rfl | (simp only [firstArgMember];rfl)) ?_)
  refine wpAny_newObj_type ?_ (by size_fits)
  simp only [raiseNew]
  refine wpAny_bind (wpAny_handled ?_)
  rw [show A.in1.handled=none from hh]
  refine wpAny_bind (wpAny_pure (wpAny_throw ?_))
  refine wpAny_bind (wpAny_isInstance (T:="StopIteration") (b:=true) ⟨_,Heap.get?_push_size _ rfl,rfl⟩ isSubtype_stop ?_)
  exact wpAny_pure (q _ (((Heap.SameBut.update ..).extBut.push _).push _))
theorem Adc {sl i n:Nat} {Q:Value -> Shared -> Prop} (hit:Xp s.heap it d sl i n ep) (q:Q (.ref it) s):wpAny (model prog w) A (pyIter (.ref it)) Q E s:=by
  refine wpAny_pyIter_slot hit.type Hx (wpAny_call_entry Hx hit.type Me ?_ (Nx _))
  show wpAny _ _ (ret (.ref it)) _ _ s
  exact wpAny_pure ⟨_,rfl,"set_iterator",_,hit.type,Cn.lookup,q⟩
theorem Yz {Q:Bool -> Shared -> Prop} (hT:s.TypeIs (.ref d) "set") (h:Q false s):wpAny (model prog w) A (Builtin.List.listLengthHint (.ref d)) Q E s:=by
  unfold Builtin.List.listLengthHint
  refine wpAny_bind (wpAny_specialOf hT PySem.F.slot_set_len.lookup ?_)
  generalize hid:("set.__len__":String)=id0
  wp_delta
  rw [show splitId id0=some ("set","__len__") from by subst hid;decide +kernel]
  subst hid
  refine wpAny_bind (wpAny_isInstance (T:="set") (b:=true) hT (by rw [isSubtype_type];kernel_rfl) ?_)
  refine wpAny_ite_split (fun hab=>absurd hab (by decide)) (fun _=>?_)
  refine wpAny_ite_split (fun _=>?_) (fun hab=>absurd (by decide +kernel) hab)
  refine wpAny_bind (wpAny_typeOf hT ?_)
  exact wpAny_pure h
theorem Ade (T:TOk t es) (pl:t.plain=true) (ld:t.led=!F5 w):KdlSrc prog w "set" d d es.size (fun i v=>∃ e,(Q5 w d es ep)[i]?=some e /\ v=e.2) (fun h=>RawS h d es ep t) where
  type:=fun _ x=>x.type
  there:=fun _ x=>⟨x.lt,x.lt⟩
  keep:=fun _ _ x hk=>x.at fun o e=>hk d (.inl rfl) o e
  notList:=by decide
  notTuple:=by decide
  hint:=fun _ _ _ _ x q=>Yz x.type q
  iter:=fun A s hh x=>⟨_,fun i h=>∃ sl,Xp h s.heap.objs.size d sl i es.size ep /\ At w t sl i /\ RawS h d es ep t,(fun _ _ q=>Yy x T pl q),{
    sub:=fun b hb=>by simp at hb;simp [hb]
    frame:=fun _ _ _ ⟨sl,st⟩ hk=>⟨sl,st.1.at fun o e=>hk _ (by simp) o e,st.2.1,st.2.2.at fun o e=>hk d (by simp) o e⟩
    item:=fun i s' Q E hi ⟨sl,st⟩ hQ=>by
      have e:=Array.getElem?_eq_getElem (show i < (Q5 w d es ep).size by rw [Nz];exact hi)
      refine Adb st.1 st.2.2 T pl ld st.2.1 e fun h' sl' hit' at' hs'=>?_
      exact hQ _ h' s'.toks ⟨_,e,rfl⟩ ⟨sl',hit',at',st.2.2.at fun o e=>hs'.extBut d o (Nat.ne_of_lt x.lt) e⟩ fun b o hb e=>hs'.extBut b o (fun h=>hb (by simp [h])) e
    done:=fun s' Q E ⟨sl,st⟩ hQ=>Agr hh st.1 st.2.2 T pl ld st.2.1 (Array.getElem?_eq_none (by rw [Nz];exact Nat.le_refl _)) fun h' he'=>hQ h' s'.toks fun b o hb e=>he' b o (fun h=>hb (by simp [h])) e
    self:=fun _ _ _ _ ⟨sl,st⟩ hQ=>Adc st.1 hQ },⟨0,⟨_,Heap.get?_push_size _ rfl,rfl,rfl⟩,fun _=>Sh T.rise,x.at fun o e=>Heap.get?_push_of_some _ e⟩⟩
end
end Mine.Internal
set_option maxRecDepth 100000
namespace Mine.Internal
open PySem PySem.SetTable PyProof.Rows PySem.W PySem.Calls
section
variable {prog:Program} {w:World} {A:Around} {E:Value -> Shared -> Prop} {s:Shared} {led:Bool} {key:Nat -> List Int × Addr}
theorem TKey.at {h h':Heap} {k:List Int} {b:Addr} (x:TKey prog w h k b) (e:∀ o,h.get? b=some o -> h'.get? b=some o):TKey prog w h' k b:=let ⟨o,items,n,ho,r⟩:=x;⟨o,items,n,e o ho,r⟩
theorem KSet.at {h h':Heap} {a:Addr} {ks:List (List Int × Addr)} (x:KSet prog w h a led ks) (e:∀ o,h.get? a=some o -> h'.get? a=some o) (hk:∀ p∈ks,TKey prog w h' p.1 p.2):KSet prog w h' a led ks :=
  let ⟨o,es,ep,t,ho,r⟩:=x.ex;⟨⟨o,es,ep,t,e o ho,r⟩,x.nodup,hk⟩
structure Met (key:Nat -> List Int × Addr) (i:Nat) (ks:List (List Int × Addr)):Prop where
  of:∀ p∈ks,∃ j,j < i /\ p=key j
  all:∀ j,j < i -> ∃ p∈ks,p.1=(key j).1
  len:ks.length <= i
theorem Met.step {i:Nat} {ks ks':List (List Int × Addr)} (x:Met key i ks) (h:(∃ p∈ks,p.1=(key i).1) /\ ks'=ks \/ (∀ p∈ks,p.1≠(key i).1) /\ ks'.Perm (ks++[((key i).1,(key i).2)])):Met key (i+1) ks':=by
  rcases h with ⟨⟨p,hp,e⟩,rfl⟩ | ⟨_,pm⟩
  · refine ⟨fun p hp=>?_,fun j hj=>?_,Nat.le_succ_of_le x.len⟩
    · refine ex1 (x.of p hp) fun j zz=>Ac zz fun h1 h2=>?_
      exact ⟨j,Nat.lt_succ_of_lt h1,h2⟩
    · by_cases c:j=i
      · exact ⟨p,hp,c▸e⟩
      · exact x.all j (by exact o51 hj c)
  · refine ⟨fun p hp=>?_,fun j hj=>?_,?_⟩
    · rcases List.mem_append.mp (pm.mem_iff.mp hp) with hp | hp
      · refine ex1 (x.of p hp) fun j zz=>Ac zz fun h1 h2=>?_
        exact ⟨j,Nat.lt_succ_of_lt h1,h2⟩
      · exact ⟨i,Nat.lt_succ_self _,List.mem_singleton.mp hp⟩
    · by_cases c:j=i
      · exact ⟨key i,pm.mem_iff.mpr (List.mem_append_right _ (.head _)),by rw [c]⟩
      · refine ex1 (x.all j (by exact o51 hj c)) fun p zz=>Ac zz fun hp e=>?_
        exact ⟨p,pm.mem_iff.mpr (List.mem_append_left _ hp),e⟩
    · rw [pm.length_eq,List.length_append,List.length_singleton]
      exact Nat.succ_le_succ x.len
theorem Y0 {R:Result -> Shared -> Prop} {I:Addr} {fp wr:List Addr} {G:Array GenState -> Array GenState -> Prop} {n:Nat} {P:Nat -> Value -> Prop} {St:Nat -> Shared -> Prop} (W:WalksS prog w A.in1 I fp wr G n P St) (S:Addr) (hSf:S ∉ fp) (hu:A.in1.units < cLine)
    (hval:∀ i v,P i v -> v=.ref (key i).2) (few:n <= 64) (ne:∀ j,j < n -> (key j).2 ∉ S :: wr) :
    ∀ (d i:Nat) (s:Shared),n - i=d -> i <= n -> St i s -> (∀ j,j < n -> TKey prog w s.heap (key j).1 (key j).2) -> (∃ ks,KSet prog w s.heap S led ks /\ Met key i ks) ->
      (∀ s',Moved (S :: wr) G s s' -> (∃ ks,KSet prog w s'.heap S led ks /\ Met key n ks) -> R (.ok (.ret .none)) s') ->
      codeAny (model prog w) A (.builtin "set.update.loop" ⟨[.ref S,.ref I],[]⟩) R s:=by
  have hSw:S ∉ wr:=fun h=>hSf (W.sub _ h)
  have hsub:∀ b∈wr,b∈S :: wr:=fun b hb=>List.mem_cons_of_mem _ hb
  have tk:∀ {s s':Shared},Moved wr G s s' -> (∀ j,j < n -> TKey prog w s.heap (key j).1 (key j).2) -> (∀ j,j < n -> TKey prog w s'.heap (key j).1 (key j).2):=fun hm h j hj=>(h j hj).at fun o e=>hm.heap _ o (fun q=>ne j hj (hsub _ q)) e
  have ks':∀ {s s':Shared} {i:Nat},i <= n -> Moved wr G s s' -> (∀ j,j < n -> TKey prog w s'.heap (key j).1 (key j).2) -> (∃ ks,KSet prog w s.heap S led ks /\ Met key i ks) -> (∃ ks,KSet prog w s'.heap S led ks /\ Met key i ks):=fun hi hm ht ⟨ks,x,y⟩=>⟨ks,x.at (fun o e=>hm.heap S o hSw e) fun p hp=>by
    refine ex1 (y.of p hp) fun j zz=>Ac zz fun h1 h2=>?_
    rw [h2];exact ht j (Nat.lt_of_lt_of_le h1 hi),y⟩
  intro d
  induction d with
  | zero =>
    intro i s hk hi hst ht hS hR
    have hin:i=n:=by exact An1 hk hi
    subst hin
    refine codeAny_builtin F.entry_set_update_loop ?_
    rw [Around.under_plainId F.plain_set_update_loop _]
    show wpAny _ A.in1 (pyNext (.ref I)>>=_) _ _ s
    refine wpAny_bind (W.done s _ _ hst fun s' hm=>?_)
    show wpAny _ A.in1 (ret Value.none) _ _ s'
    exact wpAny_pure (hR s' (hm.mono hsub) (ks' hi hm (tk hm ht) hS))
  | succ d ih =>
    intro i s hk hi hst ht hS hR
    have hlt:i < n:=by exact An2 hk hi
    refine codeAny_builtin F.entry_set_update_loop ?_
    rw [Around.under_plainId F.plain_set_update_loop _]
    show wpAny _ A.in1 (pyNext (.ref I)>>=_) _ _ s
    refine wpAny_bind (W.item i s _ _ hlt hst fun v s' hP hst' hm=>?_)
    obtain rfl:=hval i v hP
    have ht':=tk hm ht
    refine ex1 (ks' hi hm ht' hS) fun ks zz=>Ac zz fun X Y=>?_
    show wpAny _ A.in1 (holding [Value.ref (key i).2] (setAdd S (.ref (key i).2))>>=_) _ _ s'
    refine wpAny_bind (wpAny_holding (Ada hu X (ht' i hlt) (by have:=Y.len;exact An3 hlt few this) fun h' ks2 r hsb X2 hh=>?_))
    have keep:∀ b o,b≠S -> s'.heap.get? b=some o -> h'.get? b=some o:=fun b o hb e=>by rw [hsb.2 b hb];exact e
    refine wpAny_pure ⟨plainId_quiet F.plain_set_update_loop _,ih (i+1) _ (by exact An4 hk hlt) hlt (W.frame _ s' _ _ hst' (Nat.le_add_right _ _) fun b hb o e=>keep b o (fun h:b=S=>hSf (by rw [<- h];exact hb)) e) (fun j hj=>(ht' j hj).at fun o e=>keep _ o (fun q=>ne j hj (by rw [q];exact List.mem_cons_self)) e) ⟨ks2,X2,Y.step hh⟩ fun s'' hm'' hS''=>?_⟩
    refine hR s'' (Moved.trans W.gtrans ((hm.mono hsub).then_heap (Nat.le_add_right _ _) fun b o hb e=>?_) hm'') hS''
    exact keep b o (fun h:b=S=>hb (by rw [h];exact List.mem_cons_self)) e
theorem Mf (a:Value) {Q₁:Value -> Shared -> Prop}
    (h:Q₁ (.ref s.heap.objs.size) { s with heap:=s.heap.push { cls:=.type "set",dict:=none,data:=.set #[] 0 (.fresh 0 0 (!F5 w)) } }) :
    codeAny (model prog w) A (.call (.builtin "set.__new__") ⟨[.type "set",a],[]⟩) (wants Q₁ E) s:=by
  refine codeAny_of_tree ?_
  show wpAny _ A.in1 (do checkBuiltinCall "set.__new__" ⟨[.type "set",a],[]⟩;again (.builtin "set.__new__" ⟨[.type "set",a],[]⟩)) _ _ s
  refine wpAny_bind (wpAny_of_eq (F.newCall_set_1 a) (wpAny_pure ⟨plainId_quiet F.plain_set_new _,codeAny_builtin F.entry_set_new ?_⟩))
  rw [Around.under_plainId F.plain_set_new _]
  unfold Builtin.«set.__new__» Builtin.Frozenset.newClass
  have hsub:=sub_set_self
  obtain ⟨hp,g,d,tk,os⟩:=s
  dsimp only
  wp_walk
  refine wpAny_askSetting (wpAny_pure ?_)
  dsimp only
  simp only [newObj]
  refine wpAny_bind (wpAny_alloc (wpAny_pure ?_))
  exact wpAny_pure h
theorem Y1 (f m:Nat) (led:Bool):TOk (.fresh f m led) #[] :=
  ⟨rfl,rfl,.inl rfl,fun i j v w _ h=>by simp [SetTable.fresh] at h,fun i j h=>by simp [SetTable.fresh] at h,fun i j h x e=>by simp [SetTable.fresh] at e,Nat.zero_le _⟩
set_option maxHeartbeats 3200000 in
theorem Kk {l:Addr} {items:Array Value} {Q:Value -> Shared -> Prop}
    (hh:A.handled=none) (hu:A.units+10 < cLine) (hl:s.heap.IsList l items) (hi:∀ (i:Nat) (v:Value),items[i]?=some v -> v=.ref (key i).2) (hk:∀ j,j < items.size -> TKey prog w s.heap (key j).1 (key j).2) (hb:items.size <= 64)
    (h:∀ (h':Heap) (tk:Nat) ks,KSet prog w h' s.heap.objs.size (!F5 w) ks -> Met key items.size ks ->
      (∀ b o,b < s.heap.objs.size -> s.heap.get? b=some o -> h'.get? b=some o) -> Q (.ref s.heap.objs.size) { s with heap:=h',toks:=tk }) :
    wpAny (model prog w) A (call (.type "set") [.ref l]) Q E s:=by
  refine ex2 F.called_set.mro fun c tl hmro=>?_
  have hmade:=F.called_set.made
  have hsub:=F.called_set.sub
  refine wpAny_call (codeAny_of_tree ?_)
  show wpAny _ _ (callAny (.type "set") _) _ _ _
  refine wpAny_pure ⟨Code.quiet_builtin _ (by decide +kernel),codeAny_builtin F.entry_type_call ?_⟩
  rw [Around.under_plain (weight_type_call_type "set" [.ref l] []) rfl]
  have h1:=F.called_set.notType
  have h2:=F.called_set.canCreate
  have hct:=F.typeCall_set_1 (.ref l)
  repeat (any_goals (first | assumption | wp_step))
  refine codeAny_mono (Mf (.ref l) (E:=E) (Q₁:=fun obj s₁=>obj=.ref s.heap.objs.size /\ s₁={ s with heap:=s.heap.push { cls:=.type "set",dict:=none,data:=.set #[] 0 (.fresh 0 0 (!F5 w)) } }) ⟨rfl,rfl⟩) fun r s₁ hr=>?_
  cases r with
  | error e=>exact hr
  | ok fl =>
    cases fl with
    | ret obj =>
      obtain ⟨rfl,rfl⟩:=hr
      generalize hled:(!F5 w)=led at h ⊢
      have hS:(s.heap.push { cls:=.type "set",dict:=none,data:=.set #[] 0 (.fresh 0 0 led) }).get? s.heap.objs.size=some { cls:=.type "set",dict:=none,data:=.set #[] 0 (.fresh 0 0 led) }:=Heap.get?_push_size _ rfl
      have hT:Shared.TypeIs { s with heap:=s.heap.push { cls:=.type "set",dict:=none,data:=.set #[] 0 (.fresh 0 0 led) } } (.ref s.heap.objs.size) "set":=⟨_,hS,rfl⟩
      have hli:=F.called_set.init.lookup
      have hbi:=F.called_set.init.bind (.ref s.heap.objs.size)
      repeat (any_goals (first | assumption | wp_step))
      refine codeAny_mono (codeAny_call_builtin (R:=wants (fun r s₂=>r=.none /\ ∃ h' tk ks,s₂={ s with heap:=h',toks:=tk } /\
          KSet prog w h' s.heap.objs.size led ks /\ Met key items.size ks /\
          (∀ b o,b < s.heap.objs.size -> s.heap.get? b=some o -> h'.get? b=some o)) E) F.called_set.init.plain F.entry_set_init (check_set_init_1 hT ?_)) fun r₂ s₂ hr₂=>?_
      · refine ex1 hl fun ol zz=>As zz fun hol hcl zz=>ex1 zz fun nl hdl=>?_
        obtain ⟨ocls,odict,odata,oslots⟩:=ol
        simp only at hcl hdl
        subst hcl;subst hdl
        have hol':(s.heap.push { cls:=.type "set",dict:=none,data:=.set #[] 0 (.fresh 0 0 led) }).get? l=some { cls:=.type "list",dict:=odict,data:=.seq items nl,slots:=oslots }:=Heap.get?_push_of_some _ hol
        have hsls:=F.sub_list_set
        have hslf:=F.sub_list_frozenset
        have hne:(Value.type "list" == Value.type "dict")=false:=by decide
        have hl1:(s.heap.push { cls:=.type "set",dict:=none,data:=.set #[] 0 (.fresh 0 0 led) }).IsList l items:=⟨_,hol',rfl,nl,rfl⟩
        unfold Builtin.«set.__init__» noKeywords Builtin.Frozenset.updateFrom
        generalize hPI:pyIter=PI
        wp_walk
        subst hPI
        refine wpAny_pyIter_list hl1 ?_
        refine wpAny_bind (wpAny_runValue ?_)
        have hlS:l < s.heap.objs.size:=Heap.lt_size hol
        have hh3:A.in1.in1.in1.handled=none:=by simp [hh]
        have hneI:l≠(s.heap.push { cls:=.type "set",dict:=none,data:=.set #[] 0 (.fresh 0 0 led) }).objs.size:=by
          rw [Heap.size_push];exact Nat.ne_of_lt (Nat.lt_succ_of_lt hlS)
        have hSf:s.heap.objs.size ∉ [(s.heap.push { cls:=.type "set",dict:=none,data:=.set #[] 0 (.fresh 0 0 led) }).objs.size,l]:=by
          rw [Heap.size_push];simp only [List.mem_cons,List.mem_singleton,List.not_mem_nil,or_false,not_or]
          exact ⟨Nat.ne_of_lt (Nat.lt_succ_self _),Nat.ne_of_gt hlS⟩
        have kl:∀ j,j < items.size -> (key j).2 < s.heap.objs.size:=fun j hj=>let ⟨_,_,_,e,_⟩:=hk j hj;Heap.lt_size e
        have tk0:∀ j,j < items.size -> TKey prog w ((s.heap.push { cls:=.type "set",dict:=none,data:=.set #[] 0 (.fresh 0 0 led) }).push { cls:=.type "list_iterator",data:=.fields #[.ref l,.int 0 0] }) (key j).1 (key j).2:=fun j hj=>(hk j hj).at fun o e=>Heap.get?_push_of_some _ (Heap.get?_push_of_some _ e)
        have hget:((s.heap.push { cls:=.type "set",dict:=none,data:=.set #[] 0 (.fresh 0 0 led) }).push { cls:=.type "list_iterator",data:=.fields #[.ref l,.int 0 0] }).get? s.heap.objs.size
              = some { cls:=.type "set",dict:=none,data:=.set #[] 0 (.fresh 0 0 led) }:=Heap.get?_push_of_some _ hS
        refine Y0 (key:=key) (led:=led) ((Walks.list hh3 _ l hneI items).toS) s.heap.objs.size
          hSf (by simp only [Around.in1_units];exact An5 hu) hi hb (fun j hj q=>?_) (items.size - 0) 0 _ (by exact An6) (Nat.zero_le _)
          ⟨⟨_,Heap.get?_push_size _ rfl,rfl,rfl⟩,(hl1.push _)⟩ tk0 ⟨[],⟨⟨_,#[],0,_,hget,⟨rfl,rfl,rfl⟩,rfl,Y1 0 0 led,(show 0 * 5 < 7 * 3 by decide),rfl,rfl,rfl⟩,List.nodup_nil,fun p hp=>nomatch hp⟩,⟨fun p hp=>(nomatch hp),fun j hj=>absurd hj (Nat.not_lt_zero _),Nat.le_refl _⟩⟩ ?hR
        · have:=kl j hj
          rw [Heap.size_push] at q
          rcases List.mem_cons.mp q with q | q
          · exact Nat.ne_of_lt this q
          · rw [List.mem_singleton] at q;exact Nat.ne_of_lt (Nat.lt_succ_of_lt this) q
        case hR =>
          intro s' hm hS'
          obtain ⟨h',g',d',tk',os'⟩:=s'
          have eg:g'=s.gens:=hm.gens
          have ed:d'=s.drawn:=hm.drawn
          have eo:os'=s.os:=hm.os
          subst eg;subst ed;subst eo
          refine ex1 hS' fun ks zz=>Ac zz fun X Y=>?_
          show wpAny _ _ _ _ _ _
          refine wpAny_pure ?_
          show wpAny _ _ (ret Value.none) _ _ _
          refine wpAny_pure ⟨rfl,h',tk',ks,rfl,X,Y,fun b o hb e=>?_⟩
          have hb1:b≠s.heap.objs.size:=Nat.ne_of_lt hb
          have hb2:b≠(s.heap.push { cls:=.type "set",dict:=none,data:=.set #[] 0 (.fresh 0 0 led) }).objs.size:=by
            rw [Heap.size_push];exact Nat.ne_of_lt (Nat.lt_succ_of_lt hb)
          exact hm.heap b o (by simp only [List.mem_cons,List.mem_singleton,List.not_mem_nil,or_false,not_or];exact ⟨hb1,hb2⟩) (Heap.get?_push_of_some _ (Heap.get?_push_of_some _ e))
      · cases r₂ with
        | error e=>exact hr₂
        | ok fl₂ =>
          cases fl₂ with
          | ret r =>
            refine Ac hr₂ fun zr0 zz=>ex3 zz fun h' tk ks zz=>By zz fun zr4 X Y hk'=>?_;subst zr0;subst zr4
            repeat (any_goals (first | assumption | wp_step))
            exact h _ _ ks X Y hk'
          | _=>exact hr₂.elim
    | _=>exact hr.elim
end
end Mine.Internal
namespace Mine.Internal
open PySem
theorem A7 {α β γ:Type} (m:M α) (f:α -> M β) (g:β -> M γ):(m.bnd f).bnd g=m.bnd fun x=>(f x).bnd g:=by
  funext H
  unfold M.bnd
  cases m H <;> rfl
section
variable {α β:Type} {cx:Cx} {A:Around} {P:Amb} {t:Sem α} {m:M β} {V:β -> α -> Amb}
theorem Sim.rule {tag:String} {k:Unit -> Sem α} (x:Sim cx A P (k ()) m V):Sim cx A P (rule tag>>=k) m V:=x.pre fun _ _ _ h=>wpAny_bind (wpAny_rule h)
theorem Sim.relse {vs keep:List Value} {k:Unit -> Sem α} (x:Sim cx A P (k ()) m V):Sim cx A P (release vs keep>>=k) m V:=x.pre fun _ _ _ h=>wpAny_bind (wpAny_release h)
theorem Sim.oper {t:Sem Value} {V:β -> Value -> Amb} {vs:List Value} (x:Sim cx A P t m V):Sim cx A P (operate vs t) m V:=x.pre fun _ _ _ h=>fun Γ p hΓ=>by
  rw [Sem.wp_operate];exact h Γ p hΓ
theorem Sim.of_eq {t':Sem α} (e:t'=t) (x:Sim cx A P t m V):Sim cx A P t' m V:=e▸x
theorem Sim.of_m {m':M β} (e:m'=m) (x:Sim cx A P t m V):Sim cx A P t m' V:=e▸x
noncomputable abbrev BV:Bool -> Bool -> Amb:=fun b b'=>Amb.prop (b'=b)
end
section
variable {cx:Cx} {A:Around} {P:Amb} {env:Env} {Φ:Funs} {Γ:Env'}
structure EOk (cx:Cx) (A:Around) (P:Amb) (Φ:Funs) (env:Env) (Γ:Env') (m:ME) (e:Expr):Prop where
  val:Sim cx A P (eval e env) (Ai cx.T Φ m Γ) (Amb.vr cx)
  tru:Sim cx A P (isTrue e env (eval e env)) ((Ai cx.T Φ m Γ).bnd Dn) BV
theorem F6 {a:Val} {v:Value}:Sim cx A (P.and (Amb.vr cx a v)) (truthy v) (Dn a) BV:=Sb fun _ _ p=>p.2
theorem EOk.of {m:ME} {e:Expr} (x:Sim cx A P (eval e env) (Ai cx.T Φ m Γ) (Amb.vr cx)) (h:isTrue e env (eval e env)=(do let v <- eval e env;standAt e.pos;holding [v] (truthy v))):EOk cx A P Φ env Γ m e :=
  ⟨x,Sim.of_eq h (x.bind fun b a=>Sim.stand (Sim.holding F6))⟩
theorem Sim.and1 {α β:Type} {t:Sem α} {m:M β} {V:β -> α -> Amb} {Q:Amb} (x:Sim cx A P t m V):Sim cx A (P.and Q) t m V:=x.weak fun _ _ p=>p.1
theorem Adf {op:BOp} {o:Operator} {a b:ME} {l r:Expr} {pos:Pos} (ho:Ah0 op o=true) (x:EOk cx A P Φ env Γ a l) (y:EOk cx A P Φ env Γ b r):EOk cx A P Φ env Γ (.bin op a b) (.BinOp l o r pos):=by
  refine EOk.of ?_ rfl
  exact x.val.bind fun x1 v=>(Sim.holding y.val.and1).bind fun y1 w=>Sim.stand (Sim.oper (Acb ho (fun _ _ p=>p.1.2) fun _ _ p=>p.2))
theorem Adg {a:ME} {l:Expr} {pos:Pos} (x:EOk cx A P Φ env Γ a l):EOk cx A P Φ env Γ (.neg a) (.UnaryOp .USub l pos):=by
  refine EOk.of ?_ rfl
  exact x.val.bind fun x1 v=>Sim.stand (Sim.holding (Acd fun _ _ p=>p.2))
theorem Adh {a:ME} {l:Expr} {pos:Pos} (x:EOk cx A P Φ env Γ a l):EOk cx A P Φ env Γ (.not a) (.UnaryOp .Not l pos):=by
  refine ⟨?_,?_⟩
  · skip
    exact x.val.bind fun x1 v=>Sim.stand (Sim.holding (Ace fun _ _ p=>p.2))
  · rw [arm_isTrue_UnaryOp,Afs]
    refine Sim.of_m (m:=((Ai cx.T Φ a Γ).bnd Dn).bnd fun b=>M.ret (!b)) ?_ (x.tru.bind fun b b'=>Sim.ret fun ρ h p=>?_)
    · rw [A7,A7]
      congr 1;funext x1
      rw [A7]
      congr 1
    · have:b'=b:=p.2
      show (!b')=!b
      rw [this]
theorem Adi {α:Type} (m:M α):(m.bnd fun b=>M.ret b)=m:=by
  funext H
  unfold M.bnd
  cases m H <;> rfl
noncomputable def Xq (cx:Cx) (A:Around) (P:Amb) (Φ:Funs) (env:Env) (Γ:Env') (op:BoolOp) (pos:Pos) (m:ME) (ys:List Expr):Prop :=
  Sim cx A P (boolOp pos op (evalEach ys env)) (Ai cx.T Φ m Γ) (Amb.vr cx) /\ Sim cx A P (allTrue op ys env) ((Ai cx.T Φ m Γ).bnd Dn) BV
theorem Xq.one {op:BoolOp} {pos:Pos} {m:ME} {y:Expr} (x:EOk cx A P Φ env Γ m y):Xq cx A P Φ env Γ op pos m [y]:=by
  refine ⟨x.val,?_⟩
  refine Sim.of_m (Adi _).symm (x.tru.bind fun b b'=>?_)
  intro H ρ s R p
  have e:b'=b:=p.2
  subst e
  cases op <;> cases b' <;> exact wpAny_pure ⟨ρ,Full.refl _ _,R,rfl⟩
theorem Xq.more {op:BoolOp} {pos:Pos} {m:ME} {y:Expr} {rest:List Expr} (x:EOk cx A P Φ env Γ m (.BoolOp op (y :: rest) pos)):Xq cx A P Φ env Γ op pos m (y :: rest):=⟨x.val,x.tru⟩
theorem Ef {a:Val} {v:Value}:Sim cx A (P.and (Amb.vr cx a v)) (truthy v) (Dn a) (fun b b'=>Amb.prop (b'=b /\ v=.bool b)):=by
  intro H ρ s R p
  have x:VR cx ρ s.heap a v:=p.2
  cases x with
  | bool b=>exact Aq R fun Q E k=>wpAny_truthy_bool (k _ s.toks ⟨rfl,rfl⟩)
  | _=>trivial
set_option backward.match.sparseCases true in
theorem Adj {a b:ME} {x y:Expr} {rest:List Expr} {pos:Pos} (hx:EOk cx A P Φ env Γ a x) (hy:Xq cx A P Φ env Γ .And pos b (y :: rest)):EOk cx A P Φ env Γ (.and a b) (.BoolOp .And (x :: y :: rest) pos):=by
  refine ⟨?_,?_⟩
  · skip
    refine hx.val.bind (f:=fun v=>do
      standAt pos
      let t <- holding [v] (truthy v)
      match BoolOp.And,t with
      | .And,false | .Or,true=>pure v
      | _,_=>boolOp pos .And (evalEach (y :: rest) env)) fun x1 v=>Sim.stand ((Sim.holding Ef).bind fun b b'=>?_)
    intro H ρ s R p
    obtain ⟨e1,e2⟩:b'=b /\ v=.bool b:=p.2
    subst e1 e2
    cases b' with
    | true=>exact hy.1 H ρ s R p.1.1
    | false=>exact wpAny_pure ⟨ρ,Full.refl _ _,R,.bool _⟩
  · rw [arm_isTrue_BoolOp,arm_allTrue_cons,Aft]
    refine Sim.of_m (m:=((Ai cx.T Φ a Γ).bnd Dn).bnd fun t=>match t with
      | true=>(Ai cx.T Φ b Γ).bnd Dn
      | false=>M.ret false) ?_ (hx.tru.bind fun b b'=>?_)
    · rw [A7,A7]
      congr 1;funext x1
      rw [A7]
      congr 1;funext t
      cases t <;> rfl
    · intro H ρ s R p
      have e:b'=b:=p.2
      refine e▸?_
      cases b' with
      | true=>exact hy.2 H ρ s R p.1
      | false=>exact wpAny_pure ⟨ρ,Full.refl _ _,R,rfl⟩
set_option backward.match.sparseCases true in
theorem Ags {a b:ME} {x y:Expr} {rest:List Expr} {pos:Pos} (hx:EOk cx A P Φ env Γ a x) (hy:Xq cx A P Φ env Γ .Or pos b (y :: rest)):EOk cx A P Φ env Γ (.or a b) (.BoolOp .Or (x :: y :: rest) pos):=by
  refine ⟨?_,?_⟩
  · skip
    refine hx.val.bind (f:=fun v=>do
      standAt pos
      let t <- holding [v] (truthy v)
      match BoolOp.Or,t with
      | .And,false | .Or,true=>pure v
      | _,_=>boolOp pos .Or (evalEach (y :: rest) env)) fun x1 v=>Sim.stand ((Sim.holding Ef).bind fun b b'=>?_)
    intro H ρ s R p
    obtain ⟨e1,e2⟩:b'=b /\ v=.bool b:=p.2
    subst e1 e2
    cases b' with
    | false=>exact hy.1 H ρ s R p.1.1
    | true=>exact wpAny_pure ⟨ρ,Full.refl _ _,R,.bool _⟩
  · rw [arm_isTrue_BoolOp,arm_allTrue_cons,Aij]
    refine Sim.of_m (m:=((Ai cx.T Φ a Γ).bnd Dn).bnd fun t=>match t with
      | true=>M.ret true
      | false=>(Ai cx.T Φ b Γ).bnd Dn) ?_ (hx.tru.bind fun b b'=>?_)
    · rw [A7,A7]
      congr 1;funext x1
      rw [A7]
      congr 1;funext t
      cases t <;> rfl
    · intro H ρ s R p
      have e:b'=b:=p.2
      subst e
      cases b' with
      | false=>exact hy.2 H ρ s R p.1
      | true=>exact wpAny_pure ⟨ρ,Full.refl _ _,R,rfl⟩
theorem Dt {r:Expr} (h:Ds r=true) (op:CmpOp):behindInMarks op r=false:=by
  cases r <;> first | rfl | exact Cd h
theorem Adk (hu:A.units+100 < cLine) {op:COp} {a b:ME} {l r:Expr} {pos:Pos} (hn:Ds r=true) (x:EOk cx A P Φ env Γ a l) (y:EOk cx A P Φ env Γ b r):EOk cx A P Φ env Γ (.cmp op a b) (.Compare l [Ib op] [r] pos):=by
  have V:∀ (x1 y1:Val) (v w:Value),Sim cx A ((P.and (Amb.vr cx x1 v)).and (Amb.vr cx y1 w)) (operate [v,w] (compareOp (Ib op) v w)) ((M.look (C2 op x1 y1)).bnd fun r=>M.ret (Val.bool r)) (Amb.vr cx) :=
    fun x1 y1 v w=>Sim.oper (Lz hu (fun _ _ p=>p.1.2) fun _ _ p=>p.2)
  refine ⟨?_,?_⟩
  · rw [eval_Compare1,markedBehindIn_of_false (Dt hn _)]
    exact x.val.bind fun x1 v=>(Sim.holding y.val.and1).bind fun y1 w=>Sim.stand (V x1 y1 v w)
  · rw [isTrue_Compare1,markedBehindIn_of_false (Dt hn _),Afu]
    rw [A7]
    refine x.val.bind fun x1 v=>?_
    rw [A7]
    exact (Sim.holding y.val.and1).bind fun y1 w=>Sim.stand ((V x1 y1 v w).bind fun r c=>Sim.holding F6)
theorem Y2 (hu:A.units+100 < cLine) {op1 op2:COp} {a b c:ME} {l m r:Expr} {pos:Pos} (hn:Ds r=true) (x:EOk cx A P Φ env Γ a l) (y:EOk cx A P Φ env Γ b m) (z:EOk cx A P Φ env Γ c r):EOk cx A P Φ env Γ (.cmp2 op1 op2 a b c) (.Compare l [Ib op1,Ib op2] [m,r] pos):=by
  have V1:∀ (x1 y1:Val) (v w:Value),Sim cx A ((P.and (Amb.vr cx x1 v)).and (Amb.vr cx y1 w)) (holding [v,w] (compareOp (Ib op1) v w)) ((M.look (C2 op1 x1 y1)).bnd fun r=>M.ret (Val.bool r)) (Amb.vr cx) :=
    fun x1 y1 v w=>Sim.holding (Lz hu (fun _ _ p=>p.1.2) fun _ _ p=>p.2)
  have e0:∀ (x1 y1:Val) (k:Bool -> M Val),((M.look (C2 op1 x1 y1)).bnd k)=(((M.look (C2 op1 x1 y1)).bnd fun r=>M.ret (Val.bool r)).bnd fun v=>(Dn v).bnd k):=fun x1 y1 k=>by
    rw [A7];rfl
  refine ⟨?_,?_⟩
  · rw [arm_eval_Compare,Tp]
    have em:markedEach [Ib op1,Ib op2] [m,r] (evalEach [m,r] env)=[eval m env,eval r env]:=by
      show [eval m env,markedBehindIn (Ib op2) r (eval r env)]=_
      rw [markedBehindIn_of_false (Dt hn _)]
    rw [em]
    refine x.val.bind (f:=fun left=>do
      let rv <- holding [left] (eval m env)
      standAt pos
      let c <- holding [left,rv] (compareOp (Ib op1) left rv)
      release [left,rv] [c]
      if <- holding [c,rv] (truthy c) then compareChain pos rv [Ib op2] [eval r env] else pure c) fun x1 v=>?_
    refine (Sim.holding y.val.and1).bind fun y1 w=>Sim.stand ?_
    rw [e0]
    refine (V1 x1 y1 v w).bind fun r1 c1=>Sim.relse ?_
    refine (Sim.holding Ef).bind fun t t'=>?_
    intro H ρ s R p
    obtain ⟨e1,e2⟩:t'=t /\ c1=.bool t:=p.2
    subst e1 e2
    cases t' with
    | false=>exact wpAny_pure ⟨ρ,Full.refl _ _,R,.bool _⟩
    | true =>
      have W:Sim cx A (P.and (Amb.vr cx y1 w)) (compareChain pos w [Ib op2] [eval r env]) ((Ai cx.T Φ c Γ).bnd fun z=>(M.look (C2 op2 y1 z)).bnd fun r=>M.ret (Val.bool r)) (Amb.vr cx) :=
        (Sim.holding z.val.and1).bind fun z1 u=>Sim.stand (Sim.oper (Lz hu (fun _ _ p=>p.1.2) fun _ _ p=>p.2))
      exact W H ρ s R ⟨p.1.1.1.1,p.1.1.2⟩
  · rw [arm_isTrue_Compare,Tp]
    have em:markedEach [Ib op1,Ib op2] [m,r] (evalEach [m,r] env)=[eval m env,eval r env]:=by
      show [eval m env,markedBehindIn (Ib op2) r (eval r env)]=_
      rw [markedBehindIn_of_false (Dt hn _)]
    rw [em,A7]
    refine x.val.bind (f:=fun left=>do
      let rv <- holding [left] (eval m env)
      standAt pos
      let c <- holding [left,rv] (compareOp (Ib op1) left rv)
      release [left,rv] [c]
      if <- holding [c,rv] (truthy c) then testChain pos rv [Ib op2] [eval r env] else pure false) fun x1 v=>?_
    rw [A7]
    refine (Sim.holding y.val.and1).bind fun y1 w=>Sim.stand ?_
    rw [e0,A7]
    refine (V1 x1 y1 v w).bind fun r1 c1=>Sim.relse ?_
    rw [A7]
    refine (Sim.holding Ef).bind fun t t'=>?_
    intro H ρ s R p
    obtain ⟨e1,e2⟩:t'=t /\ c1=.bool t:=p.2
    subst e1 e2
    cases t' with
    | false=>exact wpAny_pure ⟨ρ,Full.refl _ _,R,rfl⟩
    | true =>
      have W:Sim cx A (P.and (Amb.vr cx y1 w)) (testChain pos w [Ib op2] [eval r env]) (((Ai cx.T Φ c Γ).bnd fun z=>(M.look (C2 op2 y1 z)).bnd fun r=>M.ret (Val.bool r)).bnd Dn) BV:=by
        rw [A7]
        have V2:∀ (z1:Val) (u:Value),Sim cx A ((P.and (Amb.vr cx y1 w)).and (Amb.vr cx z1 u)) (operate [w,u] (compareOp (Ib op2) w u)) ((M.look (C2 op2 y1 z1)).bnd fun r=>M.ret (Val.bool r)) (Amb.vr cx) :=
          fun z1 u=>Sim.oper (Lz hu (fun _ _ p=>p.1.2) fun _ _ p=>p.2)
        exact (Sim.holding z.val.and1).bind fun z1 u=>Sim.stand ((V2 z1 u).bind fun _ _=>Sim.holding F6)
      exact W H ρ s R ⟨p.1.1.1.1,p.1.1.2⟩
end
theorem E5 {α:Type} {f:Hp -> Option α} {H:Hp} {a:α} (h:f H=some a):M.look f H=.ok a H:=by unfold M.look;rw [h]
theorem E6 {α:Type} {f:Hp -> Option α} {H:Hp} (h:f H=none):M.look f H=.bad:=by unfold M.look;rw [h]
theorem Adl (f:BF) (h:f≠.sortedSet):((Fs f).1,L5 f)∈Ep:=by
  unfold Ep
  cases f <;> first
    | exact absurd rfl h
    | repeat (first | exact List.Mem.head _ | apply List.Mem.tail)
theorem Agt (t:Ty) (h:∀ c,t≠.cls c):(Nd t,X6 t)∈Ep:=by
  unfold Ep
  cases t <;> first
    | exact absurd rfl (h _)
    | repeat (first | exact List.Mem.head _ | apply List.Mem.tail)
theorem U2:(("isinstance":Str),Value.builtin "isinstance")∈Ep:=by
  unfold Ep
  repeat (first | exact List.Mem.head _ | apply List.Mem.tail)
section
variable {cx:Cx} {N:Names} {A:Around} {P:Amb} {env:Env} {sc:Scope} {ns:List (Option Str)} {Γ:Env'} {Φ:Funs} {l:List Env}
theorem Ath {α:Type} {xs:List α} (h:xs.length=2):∃ a b,xs=[a,b]:=by
  match xs,h with
  | [a,b],_=>exact ⟨a,b,rfl⟩
theorem Sl (hh:A.handled=none) (hu:A.units+100 < cLine) (f:BF) (hf:f≠.sortedSet) {ms:List Val} {vs:List Value} (hl:ms.length=(Fs f).2):Sim cx A (Amb.vrs cx ms vs) (call (L5 f) vs) (bfV f ms) (Amb.vr cx):=by
  have one:∀ {t:Sem Value} {m:Val -> M Val},ms.length=1 -> (∀ (a:Val) (v:Value),ms=[a] -> vs=[v] -> Sim cx A (Amb.vr cx a v) t (bfV f ms) (Amb.vr cx)) -> Sim cx A (Amb.vrs cx ms vs) t (bfV f ms) (Amb.vr cx):=by
    intro t m h1 k H ρ s R p
    have p':VRs cx ρ s.heap ms vs:=p
    have hv:=p'.length
    obtain ⟨a,rfl⟩:=List.length_eq_one_iff.mp h1
    refine ex1 p'.one_inv fun v zz=>Ac zz fun zr1 x=>?_;subst zr1
    exact k a v rfl rfl H ρ s R x
  have two:∀ {t:Sem Value} {m:Val -> M Val},ms.length=2 -> (∀ (a b:Val) (v w:Value),ms=[a,b] -> vs=[v,w] -> Sim cx A ((Amb.vr cx a v).and (Amb.vr cx b w)) t (bfV f ms) (Amb.vr cx)) -> Sim cx A (Amb.vrs cx ms vs) t (bfV f ms) (Amb.vr cx):=by
    intro t m h1 k H ρ s R p
    have p':VRs cx ρ s.heap ms vs:=p
    have hv:=p'.length
    refine ex2 (Ath h1) fun a b zr2=>?_;subst zr2
    refine ex2 p'.two_inv fun v w zz=>As zz fun zr2 x y=>?_;subst zr2
    exact k a b v w rfl rfl H ρ s R ⟨x,y⟩
  cases f with
  | len=>exact one (m:=fun _=>.bad) hl fun a v e1 e2=>by subst e1 e2;exact Acg fun _ _ p=>p
  | range=>exact one (m:=fun _=>.bad) hl fun a v e1 e2=>by subst e1 e2;exact T8 fun _ _ p=>p
  | list=>exact one (m:=fun _=>.bad) hl fun a v e1 e2=>by subst e1 e2;exact Sc hh fun _ _ p=>p
  | max2=>exact two (m:=fun _=>.bad) hl fun a b v w e1 e2=>by subst e1 e2;exact X8 hh (fun _ _ p=>p.1) fun _ _ p=>p.2
  | str=>exact one (m:=fun _=>.bad) hl fun a v e1 e2=>by subst e1 e2;exact T9 fun _ _ p=>p
  | int=>exact one (m:=fun _=>.bad) hl fun a v e1 e2=>by subst e1 e2;exact Yc fun _ _ p=>p
  | sortedSet=>exact absurd rfl hf
theorem Agu (B:Base cx N) (hh:A.handled=none) (hu:A.units+100 < cLine) {f:BF} {x:Str} {xs:List Expr} {es:MEs} {np pos:Pos} (hg:Bd sc x=true) (hx:(Fs f).1=x) (hl:(Fs f).2=xs.length) (hes:ckEs N sc ns es xs=true)
    (y:Sim cx A ((Amb.env cx env sc ns Γ).and (Amb.frames cx l)) (spliced (xs.map fun e=>(false,eval e env))) (evalEs cx.T Φ es Γ) (Amb.vrs cx)) :
    EOk cx A ((Amb.env cx env sc ns Γ).and (Amb.frames cx l)) Φ env Γ (.bf f es) (.Call (.Name x np) xs [] pos):=by
  refine EOk.of ?_ rfl
  refine ex2 B.ns fun mg mb zz=>Kp zz fun ng nb _ _ _ q=>?_
  intro H ρ s R p
  by_cases hf:f=.sortedSet
  · subst hf
    first | rw [I9] | rw [Na] | rw [Gf] | rw [Tq] | rw [E0] | rw [Tr]
    show Ay cx A (M.bnd _ (fun vs=>bfV .sortedSet vs) H) _ _ ρ s
    have hx':xs=[]:=List.eq_nil_of_length_eq_zero hl.symm
    subst hx'
    obtain hr0:=Fg hes;refine Eq.symm hr0▸?_
    trivial
  · have q12:mg (Fs f).1=none /\ mb (Fs f).1=some (L5 f):=q _ (Adl f hf)
    obtain ⟨q1,q2⟩:=q12
    rw [hx] at q1 q2
    first | rw [I9] | rw [Na] | rw [Gf] | rw [Tq] | rw [E0] | rw [Tr]
    refine E3.mono (E4 (f:=L5 f) (K:=fun vs Q E s=>wpAny (model cx.prog cx.w) A (call (L5 f) vs) Q E s) (fun e=>Fg (e▸hes)) R (y H ρ s R p) ?_ fun _=>Ih _) ?_
    · intro ms vs H1 ρ1 s1 e1 F1 R1 vrs
      exact Sl hh hu f hf (by rw [Cr hes e1,hl]) H1 ρ1 s1 R1 vrs
    · intro Q E h
      refine wpAny_Call_ofName (wp_glob R p.1.st hg ng nb (v:=L5 f) (.inr ⟨q1,q2⟩) ?_)
      rw [Al pos (Cm hes)]
      have hq:(∃ id,L5 f=.builtin id) \/ ∃ T,L5 f=.type T:=by
        cases f <;> first | exact absurd rfl hf | exact .inl ⟨_,rfl⟩ | exact .inr ⟨_,rfl⟩
      generalize L5 f=bv at h hq ⊢
      rcases hq with ⟨id,rfl⟩ | ⟨T,rfl⟩
      · exact Calls.callWith_builtin (Cq _) (wpAny_mono h (fun a s₁ h₁=>by rw [h₁.1];exact h₁.2) fun _ _ q=>q)
      · exact PyProof.Rows.callWith_type (Cq _) (wpAny_mono h (fun a s₁ h₁=>by rw [h₁.1];exact h₁.2) fun _ _ q=>q)
theorem Ji (B:Base cx N) {t:Ty} (ht:∀ c,t≠.cls c) {a:ME} {f y:Str} {x:Expr} {fp yp pos:Pos} (hg:Bd sc f=true) (hf:f=("isinstance":Str)) (hy:Bd sc y=true) (hty:Nd t=y) (hp:Hd x=true)
    (z:EOk cx A ((Amb.env cx env sc ns Γ).and (Amb.frames cx l)) Φ env Γ a x) :
    EOk cx A ((Amb.env cx env sc ns Γ).and (Amb.frames cx l)) Φ env Γ (.isinst a t) (.Call (.Name f fp) [x,.Name y yp] [] pos):=by
  refine EOk.of ?_ rfl
  refine ex2 B.ns fun mg mb zz=>Kp zz fun ng nb _ _ _ q=>?_
  intro H ρ s R p
  have q12:mg ("isinstance":Str)=none /\ mb ("isinstance":Str)=some (.builtin "isinstance"):=q _ U2
  have q34:mg (Nd t)=none /\ mb (Nd t)=some (X6 t):=q _ (Agt t ht)
  obtain ⟨q1,q2⟩:=q12
  obtain ⟨q3,q4⟩:=q34
  rw [<- hf] at q1 q2
  rw [hty] at q3 q4
  first | rw [I9] | rw [Na] | rw [Gf] | rw [Tq] | rw [E0] | rw [Tr]
  refine Ay.bindK (K':=fun Q E s=>wpAny (model cx.prog cx.w) A (eval (.Call (.Name f fp) [x,.Name y yp] [] pos) env) Q E s) (K:=fun v Q E s=>wpAny (model cx.prog cx.w) A (eval (.Name y yp) env) (fun w s'=>wpAny (model cx.prog cx.w) A (call (.builtin "isinstance") [v,w]) Q E s') E s) (z.val H ρ s R p) ?_ ?_ ?_
  · intro b v H1 ρ1 s1 _ F1 R1 vr
    have e1:=(p.1.full F1).st
    have ht2:(A4 cx.T b t)=M.look (fun H=>(Qo H b).map fun k=>Val.bool (Aat t k)):=by
      cases t <;> first | rfl | exact absurd rfl (ht _)
    show E3 cx (A4 cx.T b t H1) _ _ ρ1 s1
    rw [ht2]
    cases ek:Qo H1 b with
    | none =>
      have:M.look (fun H=>(Qo H b).map fun k=>Val.bool (Aat t k)) H1=.bad:=E6 (by show Option.map _ (Qo H1 b)=none;rw [ek];rfl)
      rw [this];trivial
    | some k =>
      have:M.look (fun H=>(Qo H b).map fun k=>Val.bool (Aat t k)) H1=.ok (Val.bool (Aat t k)) H1:=E5 (by show Option.map _ (Qo H1 b)=_;rw [ek];rfl)
      rw [this]
      refine wp_glob R1 e1 hy ng nb (v:=X6 t) (.inr ⟨q3,q4⟩) ?_
      exact Agd R1 vr ek ht fun tk=>⟨ρ1,Full.refl _ _,R1.toks tk,.bool _⟩
  · exact fun v Q E Q' E' s h k1 k2=>wpAny_mono h (fun _ _ h'=>wpAny_mono h' k1 k2) k2
  · intro Q E h
    refine wpAny_Call_ofName (wp_glob R p.1.st hg ng nb (v:=.builtin "isinstance") (.inr ⟨q1,q2⟩) ?_)
    have pl:Bf env [x,.Name y yp]:=⟨Bb hp,Bb rfl,trivial⟩
    rw [Al pos pl]
    refine Calls.callWith_builtin (Cq _) (Calls.evalArgs_plain (Calls.spliced_cons (wpAny_mono h (fun v s' h'=>?_) fun _ _ q=>q)))
    exact Calls.spliced_cons (wpAny_mono h' (fun w s'' h''=>Calls.spliced_nil h'') fun _ _ q=>q)
theorem Adm (hu:A.units+100 < cLine) {a i:ME} {v s:Expr} {pos:Pos} (x:EOk cx A P Φ env Γ a v) (y:EOk cx A P Φ env Γ i s):EOk cx A P Φ env Γ (.sub a i) (.Subscript v s pos):=by
  refine EOk.of ?_ rfl
  intro H ρ st R p
  refine Ay.bindK (K':=fun Q E s'=>wpAny (model cx.prog cx.w) A (eval (.Subscript v s pos) env) Q E s') (K:=fun o Q E s'=>wpAny (model cx.prog cx.w) A (eval s env) (fun i s''=>wpAny (model cx.prog cx.w) A (PyProof.Rows.subscriptTail v s o i) Q E s'') E s') (x.val H ρ st R p) ?_ ?_ ?_
  · intro b o H1 ρ1 s1 _ F1 R1 vr
    refine Ay.bindK (K':=fun Q E s'=>wpAny (model cx.prog cx.w) A (eval s env) (fun i s''=>wpAny (model cx.prog cx.w) A (PyProof.Rows.subscriptTail v s o i) Q E s'') E s') (K:=fun i Q E s'=>wpAny (model cx.prog cx.w) A (PyProof.Rows.subscriptTail v s o i) Q E s') (y.val H1 ρ1 s1 R1 (P.st _ _ _ _ p F1)) ?_ (fun _=>Ih _) fun Q E h=>h
    intro b2 i2 H2 ρ2 s2 _ F2 R2 vr2
    exact Pg (P:=(Amb.vr cx b o).and (Amb.vr cx b2 i2)) hu (fun _ _ p=>p.1) (fun _ _ p=>p.2) H2 ρ2 s2 R2 ⟨vr.step F2.step,vr2⟩
  · exact fun v Q E Q' E' s h k1 k2=>wpAny_mono h (fun _ _ h'=>wpAny_mono h' k1 k2) k2
  · exact fun Q E h=>PyProof.Rows.Subscript_ h
end
end Mine.Internal
namespace Mine.Internal
open PySem PySem.SetTable PySem.W PySem.Calls PyProof.Rows
noncomputable def Ai8:Value -> Addr
  | .ref b=>b
  | _=>0
noncomputable def kk (l:List Int):Key:=(l.getD 0 0,l.getD 1 0)
noncomputable def Ps (kl:List Key) (vs:List Value) (i:Nat):List Int × Addr:=([(kl.getD i (0,0)).1,(kl.getD i (0,0)).2],Ai8 (vs.getD i .none))
section
variable {cx:Cx} {N:Names} {A:Around} {Φ:Funs} {l:List Env} {env:Env} {sc:Scope} {ns:List (Option Str)} {Γ:Env'} {H:Hp} {ρ:Rho} {s:Shared} {kl:List Key} {vs:List Value}
theorem Gp (r:VRs cx ρ s.heap (kl.map Ad) vs) {i:Nat} {k:Key} (hk:kl[i]?=some k):∃ b,vs[i]?=some (.ref b) /\ Ps kl vs i=([k.1,k.2],b) /\ TKey cx.prog cx.w s.heap [k.1,k.2] b /\ VR cx ρ s.heap (Ad k) (.ref b):=by
  refine ex1 (r.get (show (kl.map Ad)[i]?=some (Ad k) by rw [List.getElem?_map,hk];rfl)) fun v zz=>Ac zz fun hv x=>?_
  refine ex1 (Nh x (k:=k) rfl) fun b zz=>As zz fun zr1 t _=>?_;subst zr1
  refine ⟨b,hv,?_,t,x⟩
  unfold Ps
  rw [List.getD_eq_getElem?_getD,List.getD_eq_getElem?_getD,hk,hv];rfl
theorem Y3 {ks ks':List (List Int × Addr)} (r:VRs cx ρ s.heap (kl.map Ad) vs) (M:Met (Ps kl vs) kl.length ks) (nd:(ks.map (·.1)).Nodup) (p:ks'.Perm ks):(ks'.map fun q=>kk q.1).Perm (dd kl):=by
  have of:∀ q∈ks,∃ j k,kl[j]?=some k /\ q=Ps kl vs j /\ q.1=[k.1,k.2]:=fun q hq=>by
    refine ex1 (M.of q hq) fun j zz=>Ac zz fun hj e=>?_
    have hk:kl[j]?=some kl[j]:=List.getElem?_eq_getElem hj
    refine ex1 (Gp r hk) fun b zz=>As zz fun _ e2 _=>?_
    exact ⟨j,_,hk,e,by rw [e,e2]⟩
  refine (p.map _).trans ((List.perm_ext_iff_of_nodup ?_ (Ig kl)).mpr fun k=>?_)
  · have:ks.map (fun q=>kk q.1)=(ks.map (·.1)).map kk:=by rw [List.map_map];rfl
    rw [this]
    refine List.Pairwise.map kk (R:=fun a b=>a≠b /\ (∃ k:Key,a=[k.1,k.2]) /\ ∃ k:Key,b=[k.1,k.2]) ?_ ?_
    · rintro a b ⟨h,⟨k,rfl⟩,⟨k',rfl⟩⟩ e
      have e:(k.1,k.2)=(k'.1,k'.2):=e
      exact h (by rw [(Prod.mk.inj e).1,(Prod.mk.inj e).2])
    · refine nd.imp_of_mem fun {a b} ha hb h=>⟨h,?_,?_⟩
      · refine ex1 (List.mem_map.mp ha) fun q zz=>Ac zz fun hq zr2=>?_;subst zr2
        refine ex2 (of q hq) fun _ k zz=>As zz fun _ _ e=>?_
        exact ⟨k,e⟩
      · refine ex1 (List.mem_map.mp hb) fun q zz=>Ac zz fun hq zr2=>?_;subst zr2
        refine ex2 (of q hq) fun _ k zz=>As zz fun _ _ e=>?_
        exact ⟨k,e⟩
  · rw [Kv,List.mem_map]
    constructor
    · rintro ⟨q,hq,rfl⟩
      refine ex2 (of q hq) fun j k zz=>As zz fun hk _ e=>?_
      rw [e]
      exact List.mem_of_getElem? hk
    · intro h
      obtain ⟨j,hj⟩:=List.getElem?_of_mem h
      refine ex1 (M.all j (List.getElem?_eq_some_iff.mp hj).1) fun q zz=>Ac zz fun hq e=>?_
      refine ex1 (Gp r hj) fun b zz=>As zz fun _ e2 _=>?_
      refine ⟨q,hq,?_⟩
      rw [e,e2];rfl
theorem Adn {h':Heap} {ks ks':List (List Int × Addr)} (r:VRs cx ρ s.heap (kl.map Ad) vs) (M:Met (Ps kl vs) kl.length ks) (kp:∀ b o,s.heap.get? b=some o -> h'.get? b=some o) (p:∀ q∈ks',q∈ks):VRs cx ρ h' (ks'.map fun q=>Ad (kk q.1)) (ks'.map fun q=>.ref q.2):=by
  induction ks' with
  | nil=>exact .nil
  | cons q ks' ih =>
    refine .cons ?_ (ih fun x hx=>p x (.tail _ hx))
    refine ex1 (M.of q (p q (.head _))) fun j zz=>Ac zz fun hj e=>?_
    refine ex1 (Gp r (List.getElem?_eq_getElem hj)) fun b zz=>By zz fun _ e2 _ x=>?_
    rw [e,e2]
    exact x.step (Full.more kp).step
theorem Pt {h1:Heap} {tk1:Nat} {S:Addr} {ks:List (List Int × Addr)} {E:Value -> Shared -> Prop} {Q:List Value -> Shared -> Prop} {ys:List Val} (hh:A.handled=none) (r:VRs cx ρ s.heap (kl.map Ad) vs) (hx:Ey ((dd kl).map Ad)=some ys) (few:kl.length <= 64) (X:KSet cx.prog cx.w h1 S (!F5 cx.w) ks) (M:Met (Ps kl vs) kl.length ks) (kp1:∀ b o,s.heap.get? b=some o -> h1.get? b=some o)
    (k:∀ h' tk xs vs,(∀ b o,h1.get? b=some o -> h'.get? b=some o) -> VRs cx ρ h' xs vs -> Ey xs=some ys -> Q vs { s with heap:=h',toks:=tk }):wpAny (model cx.prog cx.w) A (collect (.ref S)) Q E { s with heap:=h1,toks:=tk1 }:=by
  refine ex4 X.ex fun o es ep t zz=>Ah1 zz fun ho hc hd T _ he ld pl=>?_
  have el:es.size=ks.length:=by have:=congrArg List.length he;rw [List.length_map,Array.length_toList] at this;exact this
  refine kdu_collect (s:={ s with heap:=h1,toks:=tk1 }) (Ade (ep:=ep) T pl ld) hh ⟨o,ho,hc,hd⟩ (by rw [sizeLine_eq];have:=M.len;exact An7 el few this) fun h' tk acc kp it=>?_
  refine ex1 (Md (Ny cx.w S es ep) ks he) fun ks' zz=>Ac zz fun p e2=>?_
  have e:acc.toList=ks'.map fun q=>Value.ref q.2:=by
    refine List.ext_getElem? fun i=>?_
    by_cases c:i < acc.size
    · have e1:acc[i]?=some acc[i]:=Array.getElem?_eq_getElem c
      refine ex1 (it.2 i _ e1) fun e zz=>Ac zz fun e3 e4=>?_
      rw [Array.getElem?_toList,e1,e4]
      rw [<- Array.getElem?_toList,e2,List.getElem?_map] at e3
      refine ex1 (Option.map_eq_some_iff.mp e3) fun x zz=>Ac zz fun e5 e6=>?_
      rw [List.getElem?_map,e5,<- e6];rfl
    · have:=it.1
      rw [List.getElem?_eq_none (by rw [Array.length_toList];exact Afi c),List.getElem?_eq_none (by rw [List.length_map,p.length_eq];exact An8 el this c)]
  refine k h' tk (ks'.map fun q=>Ad (kk q.1)) acc.toList kp ?_ (Pb ?_ hx)
  · rw [e]
    exact Adn r M (fun b o h=>kp b o (kp1 b o h)) fun q hq=>p.mem_iff.mp hq
  · have:=(Y3 r M X.nodup p).map Ad
    rw [List.map_map] at this
    exact this
theorem Sm {b:Val} {v:Value} (hh:A.handled=none) (hu:A.units+100 < cLine) (R:Rel cx H ρ s) (vr:VR cx ρ s.heap b v) :
    E3 cx (Lv b H) (fun Q E s=>wpAny (model cx.prog cx.w) A (call (.type "set") [v]) (fun w s'=>wpAny (model cx.prog cx.w) A (call (.builtin "sorted") [w]) Q E s') E s) (Amb.vr cx) ρ s:=by
  cases hs:Tn b H with
  | none =>
    have:Lv b H=.bad:=by unfold Lv;rw [hs]
    rw [this];trivial
  | some ys =>
    have:Lv b H=M.alloc (.list ys) H:=by unfold Lv;rw [hs]
    rw [this]
    refine Ah fun G kG=>?_
    refine ex1 (Option.bind_eq_some_iff.mp hs) fun kl zz=>Ac zz fun h1 h2=>?_
    refine ex1 (Option.bind_eq_some_iff.mp h1) fun xs zz=>Ac zz fun h3 h4=>?_
    refine kG ?_
    have few:xs.length <= 64 /\ Kt xs=some kl:=by
      by_cases q:xs.length <= 64
      · rw [if_pos q] at h4;exact ⟨q,h4⟩
      · rw [if_neg q] at h4;exact Aa h4
    obtain ⟨few,h5⟩:=few
    have e:=Kw h5
    subst e
    refine ex1 (Nb h3) fun i zz=>Ac zz fun hb hl=>?_
    subst hb
    cases vr with
    | @loc _ q hq =>
      refine Ah fun G kG=>?_
      refine ex2 (R.listAt hl hq) fun vs n zz=>By zz fun _ g r _=>?_
      refine kG ?_
      have ln:vs.toArray.size=kl.length:=by rw [List.size_toArray,<- r.length,List.length_map]
      refine Kk (key:=Ps kl vs) hh (by exact An9 hu) ⟨_,g,rfl,n,rfl⟩ ?_ ?_ (by rw [ln];rw [List.length_map] at few;exact few) fun h' tk ks X M kp=>?_
      · intro j w hw
        rw [List.getElem?_toArray] at hw
        have lt:j < kl.length:=by rw [<- ln,List.size_toArray];exact (List.getElem?_eq_some_iff.mp hw).1
        refine ex1 (Gp r (List.getElem?_eq_getElem lt)) fun b zz=>As zz fun e1 e2 _=>?_
        rw [e1] at hw
        rw [e2]
        exact (Option.some.inj hw).symm
      · intro j hj
        rw [ln] at hj
        refine ex1 (Gp r (List.getElem?_eq_getElem hj)) fun b zz=>By zz fun _ e2 t _=>?_
        rw [e2]
        exact t
      · rw [ln] at M
        have kp':∀ b o,s.heap.get? b=some o -> h'.get? b=some o:=fun b o e=>kp b o (Heap.lt_size e) e
        have:=Pp (A:=A) (p:=s.heap.objs.size) (ys:=ys) hh hu (R.more (tk:=tk) kp') fun E Q k=>Pt (A:=A.in1) (s:=s) (tk1:=tk) hh r h2 (by rw [List.length_map] at few;exact few) X M kp' k
        exact wpAny_mono this (fun a s' ⟨ρ',F,R',w⟩=>⟨ρ',(Full.more kp').trans F,R',w⟩) fun _ _ h=>h
theorem Sn:(("sorted":Str),Value.builtin "sorted")∈Ep:=by decide +kernel
theorem Ado:(("set":Str),Value.type "set")∈Ep:=by decide +kernel
theorem Y4 (B:Base cx N) (hh:A.handled=none) (hu:A.units+100 < cLine) {a:ME} {f y:Str} {x:Expr} {fp yp ip pos:Pos} (hg:Bd sc f=true) (hf:f=("sorted":Str)) (hy:Bd sc y=true) (hs:y=("set":Str)) (hp:Hd x=true)
    (z:EOk cx A ((Amb.env cx env sc ns Γ).and (Amb.frames cx l)) Φ env Γ a x) :
    EOk cx A ((Amb.env cx env sc ns Γ).and (Amb.frames cx l)) Φ env Γ (.sset a) (.Call (.Name f fp) [.Call (.Name y yp) [x] [] ip] [] pos):=by
  refine EOk.of ?_ rfl
  refine Ah fun G kG=>?_
  refine ex2 B.ns fun mg mb zz=>Kp zz fun ng nb _ _ _ q=>?_
  refine kG ?_
  intro H ρ s R p
  have q12:mg ("sorted":Str)=none /\ mb ("sorted":Str)=some (.builtin "sorted"):=q _ Sn
  have q34:mg ("set":Str)=none /\ mb ("set":Str)=some (.type "set"):=q _ Ado
  rw [<- hf] at q12
  rw [<- hs] at q34
  refine Ay.bindK (K':=fun Q E s=>wpAny (model cx.prog cx.w) A (eval (.Call (.Name f fp) [.Call (.Name y yp) [x] [] ip] [] pos) env) Q E s) (K:=fun v Q E s=>wpAny (model cx.prog cx.w) A (call (.type "set") [v]) (fun w s'=>wpAny (model cx.prog cx.w) A (call (.builtin "sorted") [w]) Q E s') E s) (z.val H ρ s R p) ?_ ?_ ?_
  · intro b v H1 ρ1 s1 _ F1 R1 vr
    exact Sm hh hu R1 vr
  · exact fun v Q E Q' E' s h k1 k2=>wpAny_mono h (fun _ _ h'=>wpAny_mono h' k1 k2) k2
  · intro Q E h
    refine wpAny_Call_ofName (wp_glob R p.1.st hg ng nb (v:=.builtin "sorted") (.inr ⟨q12.1,q12.2⟩) ?_)
    have pl:Bf env [.Call (.Name y yp) [x] [] ip]:=⟨Bb rfl,trivial⟩
    have pl2:Bf env [x]:=⟨Bb hp,trivial⟩
    rw [Al pos pl]
    refine Calls.callWith_builtin (Cq _) (Calls.evalArgs_plain (Calls.spliced_cons ?_))
    refine wpAny_Call_ofName (wp_glob R p.1.st hy ng nb (v:=.type "set") (.inr ⟨q34.1,q34.2⟩) ?_)
    rw [Al ip pl2]
    refine PyProof.Rows.callWith_type (Cq _) (Calls.evalArgs_plain (Calls.spliced_cons (wpAny_mono h (fun v s' h'=>?_) fun _ _ q=>q)))
    exact Calls.spliced_nil (wpAny_mono h' (fun w s'' h''=>Calls.spliced_nil h'') fun _ _ q=>q)
end
end Mine.Internal
namespace Mine.Internal
open PySem
section
variable {cx:Cx} {N:Names} {A:Around} {Φ:Funs} {l:List Env} {env:Env} {sc:Scope} {ns:List (Option Str)} {Γ:Env'} {H:Hp} {ρ:Rho} {s:Shared}
theorem Rel.instCls (R:Rel cx H ρ s) {i c:Nat} {fs:List (Nat × Val)} {p:Addr × Addr} (hH:H[i]?=some (.inst c fs)) (hρ:ρ[i]?=some p):∃ C o,cx.cls[c]?=some (.ref C) /\ s.heap.get? p.1=some o /\ o.cls=.ref C:=by
  have:=R.objs i _ p hH hρ
  generalize ho:HObj.inst c fs=o at this
  cases this with
  | list _ _ _=>cases ho
  | dict _ _ _=>cases ho
  | hid _=>cases ho
  | inst k0 k e k1 k2 k3 k4 n f g=>cases ho;exact ⟨_,_,k,e,k1⟩
theorem Y5 (B:Base cx N) {dc:Nat} {a:ME} {f y:Str} {x:Expr} {fp yp pos:Pos} (hg:Bd sc f=true) (hf:f=("isinstance":Str)) (hy:Bd sc y=true) (hc:Do N.clss y dc=true) (hp:Hd x=true)
    (z:EOk cx A ((Amb.env cx env sc ns Γ).and (Amb.frames cx l)) Φ env Γ a x) :
    EOk cx A ((Amb.env cx env sc ns Γ).and (Amb.frames cx l)) Φ env Γ (.isinst a (.cls dc)) (.Call (.Name f fp) [x,.Name y yp] [] pos):=by
  refine EOk.of ?_ rfl
  refine Ah fun G kG=>?_
  refine ex2 B.ns fun mg mb zz=>Kp zz fun ng nb _ _ qc q=>?_
  refine kG ?_
  intro H ρ s R p
  have q12:mg ("isinstance":Str)=none /\ mb ("isinstance":Str)=some (.builtin "isinstance"):=q _ U2
  obtain ⟨q1,q2⟩:=q12
  rw [<- hf] at q1 q2
  refine ex1 (qc y dc (C8 hc)) fun D zz=>Ac zz fun hD hx=>?_
  refine Ay.bindK (K':=fun Q E s=>wpAny (model cx.prog cx.w) A (eval (.Call (.Name f fp) [x,.Name y yp] [] pos) env) Q E s) (K:=fun v Q E s=>wpAny (model cx.prog cx.w) A (eval (.Name y yp) env) (fun w s'=>wpAny (model cx.prog cx.w) A (call (.builtin "isinstance") [v,w]) Q E s') E s) (z.val H ρ s R p) ?_ ?_ ?_
  · intro b v H1 ρ1 s1 _ F1 R1 vr
    have e1:=(p.1.full F1).st
    cases b with
    | loc i =>
      cases hh:M5 H1[i]? dc with
      | none =>
        have:A4 cx.T (.loc i) (.cls dc) H1=.bad:=E6 hh
        rw [this];trivial
      | some r =>
        have e:A4 cx.T (.loc i) (.cls dc) H1=.ok r H1:=E5 hh
        rw [e]
        refine Ah fun G kG=>?_
        refine ex1 (Pc hh) fun fs zz=>Ac zz fun hH hr=>?_
        refine kG ?_
        subst hr
        cases vr with
        | loc hq =>
          refine ex2 (R1.instCls hH hq) fun C o zz=>As zz fun k1 k2 k3=>?_
          rw [hD] at k1
          cases k1
          refine wp_glob R1 e1 hy ng nb hx ?_
          exact Ab7 k2 k3 ⟨ρ1,Full.refl _ _,R1,.bool _⟩
    | _=>trivial
  · exact fun v Q E Q' E' s h k1 k2=>wpAny_mono h (fun _ _ h'=>wpAny_mono h' k1 k2) k2
  · intro Q E h
    refine wpAny_Call_ofName (wp_glob R p.1.st hg ng nb (v:=.builtin "isinstance") (.inr ⟨q1,q2⟩) ?_)
    have pl:Bf env [x,.Name y yp]:=⟨Bb hp,Bb rfl,trivial⟩
    rw [Al pos pl]
    refine Calls.callWith_builtin (Cq _) (Calls.evalArgs_plain (Calls.spliced_cons (wpAny_mono h (fun v s' h'=>?_) fun _ _ q=>q)))
    exact Calls.spliced_cons (wpAny_mono h' (fun w s'' h''=>Calls.spliced_nil h'') fun _ _ q=>q)
end
noncomputable def Ew (env:Env):List (Str × NameKind) -> List (Str × Addr) -> List (Str × Addr)
  | [],acc=>acc
  | (n,k) :: r,acc=>if k == .free then Ew env r ((n,(env.cells.lookup n).getD 0) :: acc) else Ew env r acc
theorem Gq {scope:Scope} {env:Env} (h:∀ p∈scope.names,p.2=.free -> ∃ c,env.cells.lookup p.1=some c):closureFor scope env=pure (Ew env scope.names []):=by
  have gen:∀ (names:List (Str × NameKind)) (acc:List (Str × Addr)),(∀ p∈names,p.2=.free -> ∃ c,env.cells.lookup p.1=some c) ->
      (forIn names acc fun x cs=>if (x.2 == .free)=true then (do let c <- cellOf env x.1;pure (ForInStep.yield ((x.1,c) :: cs))) else pure (ForInStep.yield cs):Sem _)=pure (Ew env names acc):=by
    intro names
    induction names with
    | nil=>intro acc _;rfl
    | cons p r ih =>
      intro acc hp
      obtain ⟨n,k⟩:=p
      rw [List.forIn_cons]
      unfold Ew
      by_cases q:(k == .free)=true
      · obtain ⟨c,hc⟩:=hp (n,k) (.head _) (by simpa using q)
        have hc':env.cells.lookup n=some c:=hc
        have e:cellOf env n=pure c:=by unfold cellOf;rw [hc']
        simp only [q,if_true,e,pure_bind,hc',Option.getD_some]
        exact ih _ fun p hp'=>hp p (.tail _ hp')
      · simp only [q,if_false,pure_bind]
        exact ih _ fun p hp'=>hp p (.tail _ hp')
  unfold closureFor
  have:=gen scope.names [] h
  simp only [bind_pure] at this ⊢
  rw [<- this]
set_option tactic.hygienic true in
theorem Pu {env:Env}:∀ {names:List (Str × NameKind)} {acc:List (Str × Addr)} {y:Str} {c:Addr},(∀ z d,acc.lookup z=some d -> d=(env.cells.lookup z).getD 0) -> (Ew env names acc).lookup y=some c -> c=(env.cells.lookup y).getD 0
  | [],acc,y,c,ha,h=>ha y c h
  | (n,k) :: r,acc,y,c,ha,h=>by
    unfold Ew at h
    split at h
    · refine Pu (fun z d hd=>?_) h
      rw [List.lookup_cons] at hd
      split at hd
      · rename_i e
        have:z=n:=by simpa using e
        refine Eq.symm this▸?_
        cases hd;rfl
      · exact ha z d hd
    · exact Pu ha h
set_option tactic.hygienic true in
theorem Pv {env:Env}:∀ {names:List (Str × NameKind)} {acc:List (Str × Addr)} {y:Str},((y,NameKind.free)∈names \/ (acc.lookup y).isSome=true) -> ((Ew env names acc).lookup y).isSome=true
  | [],_,_,h=>by
    rcases h with h | h
    · cases h
    · exact h
  | (n,k) :: r,acc,y,h=>by
    unfold Ew
    split
    · rename_i hk
      refine Pv ?_
      rcases h with h | h
      · rcases List.mem_cons.mp h with e | h
        · cases e;right;simp
        · exact .inl h
      · right
        rw [List.lookup_cons]
        split
        · rfl
        · exact h
    · rename_i hk
      refine Pv ?_
      rcases h with h | h
      · rcases List.mem_cons.mp h with e | h
        · cases e;simp at hk
        · exact .inl h
      · exact .inr h
set_option tactic.hygienic true in
theorem Pw {env:Env}:∀ {names:List (Str × NameKind)} {acc:List (Str × Addr)} {y:Str} {c:Addr},(Ew env names acc).lookup y=some c -> (y,NameKind.free)∈names \/ (acc.lookup y).isSome=true
  | [],_,_,_,h=>by right;have h':List.lookup _ _=_:=h;unfold Ew at h';rw [h'];rfl
  | (n,k) :: r,acc,y,c,h=>by
    unfold Ew at h
    split at h
    · rename_i hk
      rcases Pw h with h | h
      · exact .inl (.tail _ h)
      · rw [List.lookup_cons] at h
        split at h
        · rename_i e
          have:y=n:=by simpa using e
          refine this▸?_
          have:k=.free:=by simpa using hk
          subst this
          exact .inl (.head _)
        · exact .inr h
    · rcases Pw h with h | h
      · exact .inl (.tail _ h)
      · exact .inr h
theorem B8:∀ (names:List (Str × NameKind)) (n:Nat) (acc:List (Str × Addr)),cellsFrom n names acc=cellsFrom n names []++acc
  | [],_,_=>rfl
  | (y,k) :: r,n,acc=>by
    unfold cellsFrom
    split
    · rw [B8 r (n+1) ((y,n) :: acc),B8 r (n+1) [(y,n)],List.append_assoc];rfl
    · exact B8 r n acc
set_option tactic.hygienic true in
theorem C9:∀ {names:List (Str × NameKind)} {n:Nat} {acc:List (Str × Addr)} {y:Str} {c:Addr},(y,c)∈cellsFrom n names acc -> (y,NameKind.cell)∈names \/ (y,c)∈acc
  | [],_,_,_,_,h=>.inr h
  | (z,k) :: r,n,acc,y,c,h=>by
    unfold cellsFrom at h
    split at h
    · rename_i hk
      rcases C9 h with h | h
      · exact .inl (.tail _ h)
      · rcases List.mem_cons.mp h with e | h
        · cases e
          have:k=.cell:=by simpa using hk
          refine this▸?_
          exact .inl (.head _)
        · exact .inr h
    · rcases C9 h with h | h
      · exact .inl (.tail _ h)
      · exact .inr h
theorem Fv {env:Env}:∀ (names:List (Str × NameKind)) (y:Str),(names.map fun (n,k)=>if (k == NameKind.free && env.scope.kind == .function && env.kindOf n == some .cell) then (n,NameKind.cell) else (n,k)).lookup y =
    (names.lookup y).map fun k=>if (k == NameKind.free && env.scope.kind == .function && env.kindOf y == some .cell)=true then NameKind.cell else k
  | [],_=>rfl
  | (n,k) :: r,y=>by
    have ih:=@Fv env r y
    show List.lookup y ((if (k == NameKind.free && env.scope.kind == .function && env.kindOf n == some .cell)=true then (n,NameKind.cell) else (n,k)) :: _)=_
    cases hx:y == n with
    | true =>
      have:y=n:=by simpa using hx
      refine this▸?_
      by_cases hc:(k == NameKind.free && env.scope.kind == .function && env.kindOf y == some .cell)=true
      · rw [if_pos hc]
        simp only [List.lookup_cons,beq_self_eq_true,Option.map_some]
        rw [if_pos hc]
      · rw [if_neg hc]
        simp only [List.lookup_cons,beq_self_eq_true,Option.map_some]
        rw [if_neg hc]
    | false =>
      by_cases hc:(k == NameKind.free && env.scope.kind == .function && env.kindOf n == some .cell)=true
      · rw [if_pos hc];simp only [List.lookup_cons,hx];exact ih
      · rw [if_neg hc];simp only [List.lookup_cons,hx];exact ih
noncomputable def Eg (csc:Scope) (env:Env) (L:Addr):Env :=
  { scope:=relabel csc env,locals:=L,globals:=env.globals,cells:=cellsFrom (L+1) csc.names (Ew env csc.names []),qual:=env.qual,func:=none,code:=env.code,frame:=env.frame,builtins:=env.builtins }
noncomputable def B9 (csc:Scope) (h:Heap):Heap:=pushCells (h.push { cls:=.type "dict",data:=.dict #[] }) csc.names
theorem Ic {M:Model} {A:Around} {E:Value -> Shared -> Prop} {s:Shared} {env:Env} {csc:Scope} {Q:Env -> Shared -> Prop} (cl:List (Str × Addr))
    (h:Q (newEnv csc s.heap.objs.size env.globals (cellsFrom (s.heap.objs.size+1) csc.names cl) env.qual none .none (some env) builtinsNs) { s with heap:=B9 csc s.heap }) :
    wpAny M A (newFunctionEnv csc env.globals cl [] env.qual none .none (some env)) Q E s:=by
  simp only [newFunctionEnv,Option.isSome_some,if_true]
  refine wpAny_bind (wpAny_alloc ?_)
  refine wpAny_bind (wpAny_layCells _ (fun name kind cells=>by cases hkc:kind == NameKind.cell <;> simp [hkc]) _ _ _ _ ?_)
  rw [show ({ s with heap:=s.heap.push { cls:=.type "dict",data:=.dict #[] } }:Shared).heap.objs.size=s.heap.objs.size+1 from Heap.size_push ..]
  exact wpAny_bind (wpAny_pure (wpAny_pure h))
section
variable {cx:Cx} {N:Names} {A:Around} {env:Env} {sc csc:Scope} {ns:List (Option Str)} {Γ:Env'} {H:Hp} {ρ:Rho} {s:Shared} {x:Str}
theorem Bm (h:Jd sc csc x=true):csc.kind=.function /\ (csc.names.lookup x=some .local \/ csc.names.lookup x=some .cell) /\
    (∀ p∈csc.names,csc.names.lookup p.1=some p.2 /\ (p.2=.free -> sc.names.lookup p.1=some .cell \/ sc.names.lookup p.1=some .free)) :=
  ⟨of_decide_eq_true (an1 h),T3 (an1 (an2 h)),fun p hp=>have q:=List.all_eq_true.mp (an2 (an2 h)) p hp
    ⟨of_decide_eq_true (an1 q),fun w=>((Bool.or_eq_true _ _).mp (an2 q)).elim (fun z=>absurd w (of_decide_eq_false (not_not z))) T3⟩⟩
theorem Q7 {ns:List (Option Str)} {i:Nat} {y:Str} (h:(Dp csc ns)[i]?=some (some y)):ns[i]?=some (some y) /\ csc.names.lookup y=some .free:=by
  refine ex1 (Option.map_eq_some_iff.mp (List.getElem?_map.symm.trans h)) fun o zz=>Ac zz fun e h=>?_
  refine ex1 (Option.bind_eq_some_iff.mp h) fun z zz=>Ac zz fun e2 h=>?_
  obtain ⟨q,h⟩:=Lx h
  exact h▸⟨e.trans (congrArg some e2),q⟩
theorem B1 (csc:Scope) (h:Heap):∀ b o,h.get? b=some o -> (B9 csc h).get? b=some o:=fun b o e=>pushCells_keeps _ _ b o (Heap.get?_push_of_some _ e)
theorem Y6 (R:Rel cx H ρ s) (e0:EnvOk cx env sc ns Γ ρ s.heap) (hc:Jd sc csc x=true) (hΓ:Γ.length=ns.length) :
    EnvOk cx (Eg csc env s.heap.objs.size) csc (Dp csc ns++[some x]) (Γ++[none]) ρ (B9 csc s.heap) /\
    (∀ q,csc.names.lookup x=some .cell -> (Eg csc env s.heap.objs.size).cells.lookup x=some q -> s.heap.get? q=none):=by
  refine As (Bm hc) fun c1 c2 c3=>?_
  have F:Full ρ s.heap ρ (B9 csc s.heap):=Full.more (B1 csc s.heap)
  have lvB:Hr cx.h₀ s.heap:=fun b o e=>⟨o,R.base b o e⟩
  have ok:=cellsFrom_ok csc.names (s.heap.push { cls:=.type "dict",data:=.dict #[] }) (s.heap.objs.size+1) [] ⟨fun _ _ hm=>(nomatch hm),List.Pairwise.nil⟩ (by rw [Heap.size_push];exact Nat.le_refl _)
  rw [Heap.size_push] at ok
  have hcells:(Eg csc env s.heap.objs.size).cells=cellsFrom (s.heap.objs.size+1) csc.names []++Ew env csc.names []:=B8 _ _ _
  have hlook:∀ y c,(Eg csc env s.heap.objs.size).cells.lookup y=some c ->
      ((cellsFrom (s.heap.objs.size+1) csc.names []).lookup y=some c /\ (B9 csc s.heap).IsCell c none /\ s.heap.get? c=none /\ csc.names.lookup y=some .cell) \/
      (env.cells.lookup y=some c /\ csc.names.lookup y=some .free):=by
    intro y c h
    rw [hcells,List.lookup_append] at h
    cases q:(cellsFrom (s.heap.objs.size+1) csc.names []).lookup y with
    | some d =>
      rw [q] at h
      cases h
      have m:=ok.empty y c (mem_of_lookup q)
      refine .inl ⟨rfl,m.1,Ff (Nat.le_of_succ_le m.2),?_⟩
      rcases C9 (mem_of_lookup q) with w | w
      · exact (c3 _ w).1
      · exact nomatch w
    | none =>
      rw [q] at h
      have h':(Ew env csc.names []).lookup y=some c:=h
      have m:=Pw h'
      have mf:(y,NameKind.free)∈csc.names:=by
        rcases m with m | m
        · exact m
        · exact Cd m
      obtain ⟨l1,l2⟩:=c3 _ mf
      obtain ⟨d,hd⟩:=e0.st.hasCell y (l2 rfl)
      have v:=Pu (acc:=[]) (fun z d h=>by simp at h) h'
      rw [hd] at v
      exact .inr ⟨by rw [hd,v];rfl,l1⟩
  have hfree:∀ y,csc.names.lookup y=some .free -> ∃ c,(Eg csc env s.heap.objs.size).cells.lookup y=some c /\ env.cells.lookup y=some c:=by
    intro y hy
    have:=Pv (env:=env) (acc:=[]) (.inl (mem_of_lookup hy))
    obtain ⟨c,h⟩:=Option.isSome_iff_exists.mp this
    have hn:(cellsFrom (s.heap.objs.size+1) csc.names []).lookup y=none:=by
      cases q:(cellsFrom (s.heap.objs.size+1) csc.names []).lookup y with
      | none=>rfl
      | some d =>
        rcases C9 (mem_of_lookup q) with w | w
        · have:=(c3 _ w).1;rw [hy] at this;cases this
        · exact nomatch w
    have hl:(Eg csc env s.heap.objs.size).cells.lookup y=some c:=by rw [hcells,List.lookup_append,hn];exact h
    refine ⟨c,hl,?_⟩
    rcases hlook y c hl with ⟨_,_,_,w⟩ | ⟨w,_⟩
    · rw [hy] at w;exact nomatch w
    · exact w
  have hkind:∀ y,(Eg csc env s.heap.objs.size).kindOf y=(csc.names.lookup y).map fun k=>if (k == NameKind.free && env.scope.kind == .function && env.kindOf y == some .cell)=true then NameKind.cell else k:=fun y=>Fv csc.names y
  have locNs:(B9 csc s.heap).Ns s.heap.objs.size fun _=>none:=(Heap.Ns.new s.heap (.type "dict")).keeps (pushCells_keeps _ _)
  refine ⟨⟨⟨c1,e0.st.glob,e0.st.blt,fun y k hy=>?_,⟨_,locNs⟩,R.fresh_not (Ap _),lvB.none (Ap _),fun y c hy=>?_,fun y hy=>?_,fun y z c hy hz=>?_⟩,by unfold Dp;rw [List.length_append,List.length_append,List.length_map,hΓ];rfl,fun i y mv hi hm=>?_⟩,fun q hx hq=>?_⟩
  · rw [hkind,hy]
    cases k
    case free =>
      by_cases q:(NameKind.free == NameKind.free && env.scope.kind == .function && env.kindOf y == some .cell)=true
      · exact .inr (congrArg some (if_pos q))
      · exact .inl (congrArg some (if_neg q))
    all_goals first | rfl | trivial
  · rcases hlook y c hy with ⟨_,w1,w2,_⟩ | ⟨w,_⟩
    · exact ⟨⟨_,w1⟩,R.fresh_not w2,lvB.none w2⟩
    · refine As (e0.st.cells y c w) fun zn0 n b=>?_;obtain ⟨v,hv⟩:=zn0
      exact ⟨⟨v,Bc hv (F.data n)⟩,n,b⟩
  · rcases hy with hy | hy
    · rw [hcells,List.lookup_append]
      obtain ⟨c,h⟩:=Option.isSome_iff_exists.mp (D1 (n:=s.heap.objs.size+1) (acc:=[]) (.inl (mem_of_lookup hy)))
      exact ⟨c,by rw [h];rfl⟩
    · refine ex1 (hfree y hy) fun c zz=>Ac zz fun h _=>?_
      exact ⟨c,h⟩
  · rcases hlook y c hy with ⟨w0,w1,w2,_⟩ | ⟨w,_⟩ <;> rcases hlook z c hz with ⟨u0,u1,u2,_⟩ | ⟨u,_⟩
    · exact name_of_addr ok.apart (mem_of_lookup w0) (mem_of_lookup u0)
    · obtain ⟨⟨v,o,ho,_⟩,_⟩:=e0.st.cells z c u
      rw [w2] at ho;exact Aa ho
    · obtain ⟨⟨v,o,ho,_⟩,_⟩:=e0.st.cells y c w
      rw [u2] at ho;exact Aa ho
    · exact e0.st.apart y z c w u
  · by_cases lt:i < ns.length
    · rw [List.getElem?_append_left (by unfold Dp;rw [List.length_map];exact lt)] at hi
      rw [List.getElem?_append_left (by rw [hΓ];exact lt)] at hm
      obtain ⟨hn,hf⟩:=Q7 hi
      · · · refine Ah fun G kG=>?_
            refine ex1 (e0.vals i y mv hn hm) fun v zz=>Ac zz fun hv vr=>?_
            refine ex1 (hfree y hf) fun c zz=>Ac zz fun k1 k2=>?_
            refine kG ?_
            have ks:env.kindOf y=some .cell \/ env.kindOf y=some .free:=by
              rcases (c3 _ (mem_of_lookup hf)).2 rfl with w | w
              · exact .inl (e0.st.kinds y _ w)
              · rcases e0.st.kinds y _ w with w | w
                · exact .inr w
                · exact .inl w
            have hcell:s.heap.IsCell c (some v):=by
              rcases hv with ⟨kd,_⟩ | ⟨_,c',hc',hv⟩
              · rcases ks with w | w <;> rw [w] at kd <;> cases kd
              · rw [k2] at hc';cases hc';exact hv
            refine ⟨v,.inr ⟨?_,c,k1,hcell.keeps (B1 csc s.heap)⟩,vr.step F.step⟩
            rw [hkind,hf]
            simp only [Option.map_some]
            split
            · exact .inl rfl
            · exact .inr rfl
    · exfalso
      rw [List.getElem?_append_right (by rw [hΓ];exact Afi lt)] at hm
      cases q:i - Γ.length with
      | zero=>rw [q] at hm;simp at hm
      | succ n=>rw [q] at hm;simp at hm
  · rcases hlook x q hq with ⟨_,_,w,_⟩ | ⟨_,w⟩
    · exact w
    · rw [hx] at w;cases w
end
section
variable {cx:Cx} {N:Names} {A:Around} {env:Env} {sc:Scope} {ns:List (Option Str)} {Γ:Env'} {H:Hp} {ρ ρ':Rho} {s:Shared}
theorem Full.fresh {h h1 h2:Heap} {q:Addr} (F:Full ρ h ρ' h1) (hq:h.get? q=none) (hs:∀ b o,b≠q -> h1.get? b=some o -> h2.get? b=some o):Full ρ h ρ' h2:=by
  have ne:∀ b o,h.get? b=some o -> b≠q:=fun b o e w=>by rw [w,hq] at e;exact Aa e
  refine ⟨F.grow,fun b o e n=>?_,fun b o e=>?_⟩
  · refine ex1 (F.keep b o e n) fun o' zz=>Ac zz fun e' u=>?_
    exact ⟨o',hs b o' (ne b o e) e',u⟩
  · obtain ⟨o',e'⟩:=F.live b o e
    exact ⟨o',hs b o' (ne b o e) e'⟩
theorem Full.addOwn {h h1:Heap} {p:Addr × Addr} (F:Full ρ h ρ' h1) (hp:h.get? p.1=none /\ h.get? p.2=none):Full ρ h (ρ'++[p]) h1:=by
  refine ex1 F.grow fun e zz=>Ac zz fun hr0 he=>?_;refine Eq.symm hr0▸?_
  refine ⟨⟨e++[p],by rw [List.append_assoc],fun q hq=>?_⟩,F.keep,F.live⟩
  rcases List.mem_append.mp hq with hq | hq
  · exact he q hq
  · rw [List.mem_singleton.mp hq];exact hp
theorem EnvOk.but {h h':Heap} {q:Addr} (x:EnvOk cx env sc ns Γ ρ h) (hs:∀ b o,b≠q -> h.get? b=some o -> h'.get? b=some o) (n1:q≠env.locals) (n2:∀ y,env.cells.lookup y≠some q) (st:Step ρ h ρ h'):EnvOk cx env sc ns Γ ρ h':=by
  have kl:∀ o,h.get? env.locals=some o -> ∃ o',h'.get? env.locals=some o' /\ o'.data=o.data:=fun o e=>⟨o,hs _ o (fun w=>n1 w.symm) e,rfl⟩
  have kc:∀ y c,env.cells.lookup y=some c -> ∀ o,h.get? c=some o -> ∃ o',h'.get? c=some o' /\ o'.data=o.data:=fun y c hc o e=>⟨o,hs _ o (fun w=>n2 y (w▸hc)) e,rfl⟩
  obtain ⟨m,hm⟩:=x.st.loc
  refine ⟨⟨x.st.fn,x.st.glob,x.st.blt,x.st.kinds,⟨m,Ba hm kl⟩,x.st.locN,x.st.locB,fun y c hc=>?_,x.st.hasCell,x.st.apart⟩,x.len,fun i y mv hi hm=>?_⟩
  · refine As (x.st.cells y c hc) fun zn0 a b=>?_;obtain ⟨v,hv⟩:=zn0
    exact ⟨⟨v,Bc hv (kc y c hc)⟩,a,b⟩
  · refine ex1 (x.vals i y mv hi hm) fun v zz=>Ac zz fun hv r=>?_
    refine ⟨v,?_,r.step st⟩
    rcases hv with ⟨k,m,hm,e⟩ | ⟨k,c,hc,e⟩
    · exact .inl ⟨k,m,Ba hm kl,e⟩
    · exact .inr ⟨k,c,hc,Bc e (kc y c hc)⟩
theorem Rel.adopt (R:Rel cx H ρ s) {D:Addr} {vs:List Value} {n:Nat} {xs:List Val} (e:s.heap.get? D=some (A8 vs n)) (r:VRs cx ρ s.heap xs vs) (z:xs.length <= sizeLine) (no:¬ Aw ρ D) (nb:cx.h₀.get? D=none) :
    Rel cx (H++[.list xs]) (ρ++[(D,D)]) s /\ VR cx (ρ++[(D,D)]) s.heap (.loc H.length) (.ref D):=by
  have notF:¬ Hb (A8 vs n):=D2.1
  have notC:∀ C,¬ Dg (A8 vs n) C:=D2.2
  have own:∀ b,¬ Aw ρ b -> b≠D -> ¬ Aw (ρ++[(D,D)]) b:=fun b nb ne ⟨p,hp,h⟩=>by
    rcases List.mem_append.mp hp with hp | hp
    · exact nb ⟨p,hp,h⟩
    · rw [List.mem_singleton.mp hp] at h
      rcases h with h | h <;> exact ne h
  have st:Step ρ s.heap (ρ++[(D,D)]) s.heap:=⟨⟨_,rfl⟩,fun b o eb f nb=>⟨eb,own b nb fun w=>by rw [w,e] at eb;cases eb;exact notF f⟩,fun b o C eb c nb=>⟨o,eb,c,own b nb fun w=>by rw [w,e] at eb;cases eb;exact notC C c⟩⟩
  have nD:∀ p∈ρ,p.1≠D /\ p.2≠D:=fun p hp=>⟨fun w=>no ⟨p,hp,.inl w.symm⟩,fun w=>no ⟨p,hp,.inr w.symm⟩⟩
  have at':∀ {i:Nat} {q:Addr × Addr},(ρ++[(D,D)])[i]?=some q -> ρ[i]?=some q \/ (i=ρ.length /\ q=(D,D)):=by
    intro i q h
    by_cases lt:i < ρ.length
    · rw [List.getElem?_append_left lt] at h;exact .inl h
    · have hl':=(List.getElem?_eq_some_iff.mp h).1
      have le:i=ρ.length:=by rw [List.length_append] at hl';simp at hl';exact o1 hl' lt
      subst le
      rw [List.getElem?_append_right (Nat.le_refl _)] at h
      simp at h
      exact .inr ⟨rfl,h.symm⟩
  refine ⟨⟨by rw [List.length_append,List.length_append,R.len];rfl,fun l ob q hl hq=>?_,fun i j q r hij hi hj=>?_,fun q hq=>?_,R.base,R.sys,R.rest⟩,?_⟩
  · rcases at' hq with hq | ⟨rfl,rfl⟩
    · have lt:l < H.length:=by rw [R.len];exact (List.getElem?_eq_some_iff.mp hq).1
      rw [List.getElem?_append_left lt] at hl
      exact (R.objs l ob q hl hq).step st fun b ob _ e=>e
    · rw [<- R.len,List.getElem?_append_right (Nat.le_refl _)] at hl
      simp at hl
      subst hl
      exact .list e (r.step st) z
  · rcases at' hi with hi' | ⟨hi',eq⟩ <;> rcases at' hj with hj' | ⟨hj',er⟩
    · exact R.apart i j q r hij hi' hj'
    · have q:=nD _ (List.mem_of_getElem? hi');rw [er];exact ⟨⟨q.1,q.1⟩,q.2,q.2⟩
    · have q:=nD _ (List.mem_of_getElem? hj');rw [eq];exact ⟨⟨q.1.symm,q.2.symm⟩,q.1.symm,q.2.symm⟩
    · exact absurd (hi'.trans hj'.symm) hij
  · rcases List.mem_append.mp hq with hq | hq
    · exact R.new q hq
    · rw [List.mem_singleton.mp hq];exact ⟨nb,nb⟩
  · rw [R.len]
    exact VR.loc (p:=(D,D)) (by rw [List.getElem?_append_right (Nat.le_refl _)];simp)
structure CInv (cx:Cx) (ρ₁:Rho) (h₁:Heap) (D I:Addr) (cenv:Env) (csc:Scope) (ns':List (Option Str)) (Γ:Env') (xs:List Val) (src:Option Nat) (i:Nat) (done:List Val) (H:Hp) (ρ:Rho) (s:Shared):Prop where
  full:Full ρ₁ h₁ ρ s.heap
  rel:Rel cx H ρ s
  env:∃ o,EnvOk cx cenv csc ns' (Γ++[o]) ρ s.heap
  it:ItOk cx xs I i ρ s.heap src
  acc:∃ vs n,s.heap.get? D=some (A8 vs n) /\ VRs cx ρ s.heap done vs
  nD:¬ Aw ρ D
  nI:¬ Aw ρ I
variable {Φ:Funs} {l:List Env} {csc:Scope} {x:Str} {cond:MEo} {elt:ME} {ifs:List Expr} {e:Expr}
noncomputable def Hy (T:Tab) (Φ:Funs) (cond:MEo) (elt:ME) (Γ:Env') (x:Val):M (Option Val):=(evalC T Φ cond (Γ++[some x])).bnd fun b=>match b with
  | true=>(Ai T Φ elt (Γ++[some x])).bnd fun y=>.ret (some y)
  | false=>.ret none
theorem U3 {D:Addr} {vs:List Value} {n:Nat} {v:Value} {Q:Value -> Shared -> Prop} {E:Value -> Shared -> Prop} (g:s.heap.get? D=some (A8 vs n)) (z:vs.length <= sizeLine)
    (k:∀ h' n',h'.get? D=some (A8 (vs++[v]) n') -> Heap.SameBut D s.heap h' -> Q .none { s with heap:=h' }):wpAny (model cx.prog cx.w) A (call (.builtin "list.append") [.ref D,v]) Q E s:=by
  refine call_meets F.slot_list_append ⟨_,g,rfl⟩ F.entry_list_append (F.args_list_append_2 _ _) (list_append D vs.toArray n v (by simpa using z)) ⟨g,?_⟩
  obtain ⟨n',e⟩:=Jf vs n (fun x=>x.push v)
  refine k _ n' ?_ (Heap.SameBut.update ..)
  rw [Heap.get?_update_self _ g (by skip;rfl),e]
  simp
theorem U4 {c:Hp -> Bool} {f:Val -> M (Option Val)} {H H':Hp} {r:List Val} (h:Ed c f [] H=.ok r H'):c H=true /\ r=[] /\ H=H':=by
  have h:(if c H=true then Res.ok [] H else .bad)=Res.ok r H':=h
  by_cases q:c H=true
  · rw [if_pos q] at h;cases h;exact ⟨q,rfl,rfl⟩
  · rw [if_neg q] at h;exact Df h
theorem So {c:Hp -> Bool} {f:Val -> M (Option Val)} {m:Val} {xs:List Val} {H H':Hp} {rest:List Val} (h:Ed c f (m :: xs) H=.ok rest H') :
    c H=true /\ ∃ r H3,f m H=.ok r H3 /\ ∃ rest',Ed c f xs H3=.ok rest' H' /\ rest=(match r with | some y=>y :: rest' | none=>rest'):=by
  have h:(if c H=true then ((f m).bnd fun r=>(Ed c f xs).bnd fun ys=>M.ret (match r with | some y=>y :: ys | none=>ys)) H else .bad)=.ok rest H':=h
  by_cases q:c H=true
  · rw [if_pos q] at h
    refine ⟨q,?_⟩
    cases e1:f m H with
    | bad=>rw [Cu e1] at h;exact nomatch h
    | exc c H3=>rw [Eb e1] at h;exact Kq h
    | ok r H3 =>
      rw [Dr e1] at h
      cases e2:Ed c f xs H3 with
      | bad=>rw [Cu e2] at h;exact nomatch h
      | exc c H4=>rw [Eb e2] at h;exact Kq h
      | ok rest' H4 =>
        rw [Dr e2] at h
        cases h
        exact ⟨r,H3,rfl,rest',e2,rfl⟩
  · rw [if_neg q] at h;exact Df h
theorem U5 {T:Tab} {m:Val} {r:Option Val} {H H3:Hp} (h:Hy T Φ cond elt Γ m H=.ok r H3) :
    ∃ b H4,evalC T Φ cond (Γ++[some m]) H=.ok b H4 /\ ((b=false /\ r=none /\ H4=H3) \/ (b=true /\ ∃ y,Ai T Φ elt (Γ++[some m]) H4=.ok y H3 /\ r=some y)):=by
  unfold Hy at h
  cases e3:evalC T Φ cond (Γ++[some m]) H with
  | bad=>rw [Cu e3] at h;exact Df h
  | exc c H4=>rw [Eb e3] at h;exact Kq h
  | ok b H4 =>
    rw [Dr e3] at h
    refine ⟨b,H4,rfl,?_⟩
    cases b with
    | false=>cases h;exact .inl ⟨rfl,rfl,rfl⟩
    | true =>
      refine .inr ⟨rfl,?_⟩
      dsimp only at h
      cases e4:Ai T Φ elt (Γ++[some m]) H4 with
      | bad=>rw [Cu e4] at h;exact Df h
      | exc c H5=>rw [Eb e4] at h;exact Kq h
      | ok y H5=>rw [Dr e4] at h;cases h;exact ⟨y,rfl,rfl⟩
theorem U6 {ns':List (Option Str)} (hl:ns'.length=ns.length+1) (hx':ns'[ns.length]?=some (some x)) {ρ₁:Rho} {s₁:Shared} {D I:Addr} {cenv:Env} {xs ys:List Val} {src:Option Nat} {H₁ H₂:Hp} {px pos:Pos} {iter:Expr} {R:Result -> Shared -> Prop} (hh:A.handled=none)
    (hD:s₁.heap.get? D=none) (hI:s₁.heap.get? I=none) (hDI:D≠I) (hC:s₁.heap.get? cenv.locals=none) (hX:∀ q,csc.names.lookup x=some .cell -> cenv.cells.lookup x=some q -> s₁.heap.get? q=none)
    (hnd:∀ (i j:Nat) (y:Str),ns'[i]?=some (some y) -> ns'[j]?=some (some y) -> i=j) (hΓ:Γ.length=ns.length) (hxk:csc.names.lookup x=some .local \/ csc.names.lookup x=some .cell)
    (fr:Bo cx l ρ₁ s₁.heap) (lvB:Hr cx.h₀ s₁.heap)
    (tests:∀ Γ':Env',Γ'.length=ns'.length -> Sim cx A ((Amb.env cx cenv csc ns' Γ').and (Amb.frames cx l)) (forIn ifs true fun c r=>if r=true then do let ok <- isTrue c cenv (eval c cenv);pure (ForInStep.yield ok) else pure (ForInStep.yield r)) (evalC cx.T Φ cond Γ') BV)
    (elts:∀ Γ':Env',Γ'.length=ns'.length -> Sim cx A ((Amb.env cx cenv csc ns' Γ').and (Amb.frames cx l)) (eval e cenv) (Ai cx.T Φ elt Γ') (Amb.vr cx))
    (hz:ys.length < sizeLine) {s:Shared} {ρ:Rho} (ci:CInv cx ρ₁ s₁.heap D I cenv csc ns' Γ xs src 0 [] H₁ ρ s) (hres:Ed (chk src xs) (Hy cx.T Φ cond elt Γ) xs H₁=.ok ys H₂)
    (k:∀ ρ' s',Full ρ₁ s₁.heap ρ' s'.heap -> Rel cx (H₂++[.list ys]) ρ' s' -> VR cx ρ' s'.heap (.loc H₂.length) (.ref D) -> (∃ m,s'.heap.Ns cenv.locals m) -> ¬ Aw ρ' cenv.locals -> R (.ok .next) s') :
    codeAny (model cx.prog cx.w) A (.compLoop (.ListComp e [⟨.Name x px,iter,ifs,0⟩] csc pos) 0 (.ref I) (.ref D) cenv) R s:=by
  obtain ⟨Inv,hInv⟩:∃ Inv:Nat -> Shared -> Prop,∀ n s,Inv n s↔∃ i done H ρ rest,CInv cx ρ₁ s₁.heap D I cenv csc ns' Γ xs src i done H ρ s /\ i <= xs.length /\ n=xs.length+1 - i /\
    Ed (chk src xs) (Hy cx.T Φ cond elt Γ) (xs.drop i) H=.ok rest H₂ /\ done++rest=ys:=⟨_,fun _ _=>Iff.rfl⟩
  refine codeAny_compLoop_tests Inv ?_ (xs.length+1) ((hInv _ _).mpr ⟨0,[],H₁,ρ,ys,ci,Nat.zero_le _,rfl,hres,rfl⟩)
  intro n s hin
  refine Ah fun G kG=>?_
  refine ex5 ((hInv _ _).mp hin) fun i done H ρ rest zz=>Fe zz fun ci hi hr0 hr hys=>?_
  refine ex2 ci.acc fun vs nn zz=>Ac zz fun gD rD=>?_
  obtain ⟨oo,eok⟩:=ci.env
  refine ex1 ci.it.obj fun oI zz=>Ac zz fun gI iO=>?_
  refine kG ?_
  cases hx:xs[i]? with
  | none =>
    have hlen:=List.getElem?_eq_none_iff.mp hx
    rw [List.drop_eq_nil_of_le hlen] at hr
    refine As (U4 hr) fun ck zr1 zr2=>?_;subst zr1;subst zr2
    rw [List.append_nil] at hys
    subst hys
    refine Qz hh ci.rel ci.it ck hx fun h' tk he=>?_
    have gD':h'.get? D=some (A8 vs nn):=he D _ hDI gD
    have st:Step ρ s.heap ρ h':=Step.ext gI he iO.not.1 iO.not.2
    have bI:cx.h₀.get? I=none:=lvB.none hI
    have R':Rel cx H ρ { s with heap:=h',toks:=tk }:=ci.rel.same st (fun b o ho eb=>he b o (fun w=>ci.nI (w▸ho)) eb) fun b o eb=>he b o (fun w=>by rw [w,bI] at eb;exact nomatch eb) (ci.rel.base b o eb)
    obtain ⟨R2,v2⟩:=Rel.adopt (s:={ s with heap:=h',toks:=tk }) R' gD' (rD.step st) (Nat.le_of_lt hz) ci.nD (lvB.none hD)
    have F2:Full ρ₁ s₁.heap ρ h':=ci.full.fresh hI he
    obtain ⟨m,hm⟩:=eok.st.loc
    have nIl:I≠cenv.locals:=eok.st.notLoc gI iO.notDict
    refine k _ _ (F2.addOwn ⟨hD,hD⟩) R2 v2 ⟨m,Ba hm fun o eo=>⟨o,he _ o (fun w=>nIl w.symm) eo,rfl⟩⟩ ?_
    intro ⟨p,hp,h⟩
    rcases List.mem_append.mp hp with hp | hp
    · exact eok.st.locN ⟨p,hp,h⟩
    · rw [List.mem_singleton.mp hp] at h
      have:cenv.locals=D:=by rcases h with h | h <;> exact h
      exact eok.st.notLoc gD (fun es k q=>by cases q) this.symm
  | some m =>
    have lt:i < xs.length:=(List.getElem?_eq_some_iff.mp hx).1
    have hdrop:xs.drop i=m :: xs.drop (i+1):=by
      rw [List.drop_eq_getElem_cons lt]
      rw [List.getElem?_eq_getElem lt] at hx
      cases hx;rfl
    rw [hdrop] at hr
    refine Ah fun G kG=>?_
    refine Ac (So hr) fun ck zz=>ex2 zz fun r H3 zz=>Ac zz fun e1 zz=>ex1 zz fun rest' zz=>Ac zz fun e2 hrest=>?_
    refine kG ?_
    refine No ci.rel ci.it ck hx fun v h' tk hs hlive kk=>?_
    obtain ⟨oI',gI'⟩:=hlive
    have st:Step ρ s.heap ρ h':=Step.but gI' gI hs iO.not.1 iO.not.2
    obtain ⟨vm,it'⟩:=kk st
    have bI:cx.h₀.get? I=none:=lvB.none hI
    have R':Rel cx H ρ { s with heap:=h',toks:=tk }:=ci.rel.but gI' gI hs iO.not.1 iO.not.2 ci.nI bI
    have ext:∀ b o,b≠I -> s.heap.get? b=some o -> h'.get? b=some o:=fun b o nb eb=>by rw [hs.2 b nb];exact eb
    have eok':EnvOk cx cenv csc ns' (Γ++[oo]) ρ h':=eok.but ext (eok.st.notLoc gI iO.notDict) (eok.st.notCell gI iO.notCell) st
    have F':Full ρ₁ s₁.heap ρ h':=ci.full.fresh hI ext
    have gD':h'.get? D=some (A8 vs nn):=ext D _ hDI gD
    have own:Fq csc ns' ns.length x=true:=(Bool.and_eq_true _ _).mpr ⟨(Bool.or_eq_true _ _).mpr (hxk.imp decide_eq_true decide_eq_true),decide_eq_true hx'⟩
    refine wpAny_assign_Name (D0 (s:={ s with heap:=h',toks:=tk }) (Γ:=Γ++[oo]) (by rw [List.length_append,hΓ,hl];rfl) hnd R' eok' own vm fun h2 tk2 FS R2 eok2 hq=>?_)
    refine Ah fun G kG=>?_
    refine ex2 hq fun q oq zz=>As zz fun hqd hqs gq=>?_
    have set_eq:(Γ++[oo]).set ns.length (some m)=Γ++[some m]:=by
      rw [<- hΓ,List.set_append_right _ _ (Nat.le_refl _),Nat.sub_self];rfl
    rw [set_eq] at eok2
    have qfresh:s₁.heap.get? q=none:=by
      rcases hqd with ⟨_,rfl⟩ | ⟨w1,w2⟩
      · exact hC
      · exact hX q w1 w2
    have ext2:∀ b o,b≠q -> h'.get? b=some o -> h2.get? b=some o:=fun b o nb eb=>by rw [hqs.2 b nb];exact eb
    have F2:Full ρ₁ s₁.heap ρ h2:=F'.fresh qfresh ext2
    have qD:D≠q:=by
      rcases hqd with ⟨_,rfl⟩ | ⟨w1,w2⟩
      · exact eok'.st.notLoc gD' (fun es k q=>by cases q)
      · exact fun w=>eok'.st.notCell gD' (fun v q=>by cases q) x (w▸w2)
    refine ex1 it'.obj fun oI2 zz=>Ac zz fun gI2 iO2=>?_
    refine kG ?_
    have qI:I≠q:=by
      rcases hqd with ⟨_,rfl⟩ | ⟨w1,w2⟩
      · exact eok'.st.notLoc gI2 iO2.notDict
      · exact fun w=>eok'.st.notCell gI2 iO2.notCell x (w▸w2)
    have St2:Step ρ h' ρ h2:=FullS.step eok'.st FS
    have it2:ItOk cx xs I (i+1) ρ h2 src:=it'.step St2 fun o eo=>ext2 I o qI eo
    have rD2:VRs cx ρ h2 done vs:=(rD.step st).step St2
    have gD2:h2.get? D=some (A8 vs nn):=ext2 D _ qD gD'
    have lenG:(Γ++[some m]).length=ns'.length:=by rw [List.length_append,hΓ,hl];rfl
    -- the tests
    refine ex2 (U5 e1) fun b H4 zz=>Ac zz fun e3 e4=>?_
    have T:=tests (Γ++[some m]) lenG H ρ { s with heap:=h2,toks:=tk2 } R2 ⟨eok2,fr.full F2⟩
    rw [e3] at T
    refine wpAny_mono T (fun b' s3 ⟨ρ3,F3,R3,hb⟩=>?_) fun _ _ q=>q.elim
    have hb':b'=b:=hb
    refine Eq.symm hb'▸?_
    have F3':Full ρ₁ s₁.heap ρ3 s3.heap:=F2.trans F3
    have gD3:s3.heap.get? D=some (A8 vs nn):=F3.keep.exact gD2 ci.nD (fun es k q=>by cases q)
    have nD3:¬ Aw ρ3 D:=F3.grow.not ci.nD gD2
    refine ex1 it2.obj fun oI3 zz=>Ac zz fun gI3 iO3=>?_
    have it3:ItOk cx xs I (i+1) ρ3 s3.heap src:=it2.step F3.step fun o eo=>by
      rw [gI3] at eo;cases eo
      exact F3.keep.exact gI3 ci.nI iO3.notDict
    have nI3:¬ Aw ρ3 I:=F3.grow.not ci.nI gI3
    have rD3:VRs cx ρ3 s3.heap done vs:=rD2.step F3.step
    have eok3:EnvOk cx cenv csc ns' (Γ++[some m]) ρ3 s3.heap:=eok2.full F3
    rcases e4 with ⟨rfl,rfl,rfl⟩ | ⟨rfl,y,e4,rfl⟩
    · skip
      exact ⟨xs.length+1 - (i+1),by exact Aia lt hr0,(hInv _ _).mpr ⟨i+1,done,H4,ρ3,rest',⟨F3',R3,⟨_,eok3⟩,it3,⟨vs,nn,gD3,rD3⟩,nD3,nI3⟩,lt,rfl,e2,by rw [<- hys,hrest]⟩⟩
    · skip
      have T2:=elts (Γ++[some m]) lenG H4 ρ3 s3 R3 ⟨eok3,fr.full F3'⟩
      rw [e4] at T2
      refine wpAny_mono T2 (fun yv s4 ⟨ρ4,F4,R4,hy⟩=>?_) fun _ _ q=>q.elim
      have F4':Full ρ₁ s₁.heap ρ4 s4.heap:=F3'.trans F4
      have gD4:s4.heap.get? D=some (A8 vs nn):=F4.keep.exact gD3 nD3 (fun es k q=>by cases q)
      have nD4:¬ Aw ρ4 D:=F4.grow.not nD3 gD3
      refine ex1 it3.obj fun oI4 zz=>Ac zz fun gI4 iO4=>?_
      have it4:ItOk cx xs I (i+1) ρ4 s4.heap src:=it3.step F4.step fun o eo=>by
        rw [gI4] at eo;cases eo
        exact F4.keep.exact gI4 nI3 iO4.notDict
      have nI4:¬ Aw ρ4 I:=F4.grow.not nI3 gI4
      have rD4:VRs cx ρ4 s4.heap done vs:=rD3.step F4.step
      have eok4:=eok3.full F4
      have hlenD:vs.length < sizeLine:=by
        rw [<- rD.length]
        have t1:ys.length=done.length+rest.length:=by rw [<- hys,List.length_append]
        have t2:done.length < ys.length:=by rw [t1,hrest];simp
        exact Aoa hz t2 t1
      refine U3 gD4 (Nat.le_of_lt hlenD) fun h5 n5 gD5 hs5=>?_
      have St5:Step ρ4 s4.heap ρ4 h5:=Step.but gD5 gD4 hs5 D2.1 D2.2
      have ext5:∀ b o,b≠D -> s4.heap.get? b=some o -> h5.get? b=some o:=fun b o nb eb=>by rw [hs5.2 b nb];exact eb
      have R5:Rel cx H3 ρ4 { s4 with heap:=h5 }:=R4.but (tk:=s4.toks) gD5 gD4 hs5 D2.1 D2.2 nD4 (lvB.none hD)
      refine ⟨xs.length+1 - (i+1),by exact Aia lt hr0,(hInv _ _).mpr ⟨i+1,done++[y],H3,ρ4,rest',⟨F4'.fresh hD ext5,R5,⟨_,eok4.but ext5 (eok4.st.notLoc gD4 (fun es k q=>by cases q)) (eok4.st.notCell gD4 (fun v q=>by cases q)) St5⟩,it4.step St5 fun o eo=>ext5 I o (fun w=>hDI w.symm) eo,⟨_,_,gD5,(rD4.step St5).append (.one (hy.step St5))⟩,nD4,nI4⟩,lt,rfl,e2,?_⟩⟩
      rw [<- hys,hrest,List.append_assoc];rfl
end
theorem E7 {i:Expr} (h:Ds i=true) (env:Env) (x:Value):foldedSetIterable i env x=pure x:=by
  cases i <;> first | rfl | exact Cd h
section
variable {cx:Cx} {N:Names} {A:Around} {env:Env} {sc csc:Scope} {ns:List (Option Str)} {Γ:Env'} {H:Hp} {ρ ρ':Rho} {s:Shared} {Φ:Funs} {l:List Env} {x:Str} {cond:MEo} {elt:ME} {ifs:List Expr} {e:Expr}
theorem Rel.ext (R:Rel cx H ρ s) {h':Heap} {tk:Nat} {a:Addr} {o:Obj} (e:s.heap.get? a=some o) (hs:Heap.ExtBut a s.heap h') (n1:¬ Hb o) (n2:∀ C,¬ Dg o C) (no:¬ Aw ρ a) (nb:cx.h₀.get? a=none) :
    Rel cx H ρ { s with heap:=h',toks:=tk } :=
  R.same (Step.ext e hs n1 n2) (fun b ob ho eb=>hs b ob (fun q=>no (q▸ho)) eb) fun b ob eb=>hs b ob (fun q=>by subst q;rw [nb] at eb;cases eb) (R.base b ob eb)
theorem U7 {xs:List Val} {I:Addr} {i:Nat} {src:Option Nat} (x:ItOk cx xs I i ρ s.heap src) {Q:Value -> Shared -> Prop} {E:Value -> Shared -> Prop} (k:Q (.ref I) s):wpAny (model cx.prog cx.w) A (pyIter (.ref I)) Q E s:=by
  cases x with
  | list hp hi=>exact wpAny_pyIter_listiter hi k
  | tup e n r hi=>exact wpAny_pyIter_tupleiter hi k
  | script e r hi=>exact wpAny_pyIter_listiter hi k
  | rng e hi=>exact wpAny_pyIter_rangeiter hi k
  | str e ht hs =>
    rcases ht with rfl | rfl
    · exact wpAny_pyIter_striter_ascii hs k
    · exact wpAny_pyIter_striter_wide hs k
structure CParts (cx:Cx) (A:Around) (Φ:Funs) (l:List Env) (csc:Scope) (ns':List (Option Str)) (cond:MEo) (elt:ME) (ifs:List Expr) (e:Expr):Prop where
  tests:∀ (cenv:Env) (Γ':Env'),Γ'.length=ns'.length -> Sim cx A ((Amb.env cx cenv csc ns' Γ').and (Amb.frames cx l)) (forIn ifs true fun c r=>if r=true then do let ok <- isTrue c cenv (eval c cenv);pure (ForInStep.yield ok) else pure (ForInStep.yield r)) (evalC cx.T Φ cond Γ') BV
  elts:∀ (cenv:Env) (Γ':Env'),Γ'.length=ns'.length -> Sim cx A ((Amb.env cx cenv csc ns' Γ').and (Amb.frames cx l)) (eval e cenv) (Ai cx.T Φ elt Γ') (Amb.vr cx)
theorem E8 (hnd:∀ (i j:Nat) (y:Str),ns[i]?=some (some y) -> ns[j]?=some (some y) -> i=j) (hx:csc.names.lookup x=some .local \/ csc.names.lookup x=some .cell) :
    ∀ (i j:Nat) (y:Str),(Dp csc ns++[some x])[i]?=some (some y) -> (Dp csc ns++[some x])[j]?=some (some y) -> i=j:=by
  have lenN:(Dp csc ns).length=ns.length:=by unfold Dp;rw [List.length_map]
  have at':∀ (i:Nat) (y:Str),(Dp csc ns++[some x])[i]?=some (some y) -> (ns[i]?=some (some y) /\ csc.names.lookup y=some .free) \/ (i=ns.length /\ y=x):=by
    intro i y h
    by_cases lt:i < ns.length
    · rw [List.getElem?_append_left (by rw [lenN];exact lt)] at h
      exact .inl (Q7 h)
    · rw [List.getElem?_append_right (by rw [lenN];exact Afi lt),lenN] at h
      cases q:i - ns.length with
      | zero=>rw [q] at h;simp at h;exact .inr ⟨by exact Aj0 q lt,h.symm⟩
      | succ n=>rw [q] at h;simp at h
  intro i j y hi hj
  rcases at' i y hi with ⟨a1,a2⟩ | ⟨a1,a2⟩ <;> rcases at' j y hj with ⟨b1,b2⟩ | ⟨b1,b2⟩
  · exact hnd i j y a1 b1
  · subst b2;rcases hx with w | w <;> rw [w] at a2 <;> cases a2
  · subst a2;rcases hx with w | w <;> rw [w] at b2 <;> cases b2
  · exact Aob a1 b1
theorem Ld (hh:A.handled=none) (hc:Jd sc csc x=true) (hnd:∀ (i j:Nat) (y:Str),ns[i]?=some (some y) -> ns[j]?=some (some y) -> i=j) (hΓ:Γ.length=ns.length)
    (pt:CParts cx A Φ l csc (Dp csc ns++[some x]) cond elt ifs e)
    {v:Val} {xv:Value} {xs ys:List Val} {src:Option Nat} {H₂:Hp} {px pos:Pos} {iter:Expr} {RR:Value -> Addr -> Result -> Shared -> Prop} {E:Value -> Shared -> Prop}
    (R:Rel cx H ρ s) (e0:EnvOk cx env sc ns Γ ρ s.heap) (fr:Bo cx l ρ s.heap) (vr:VR cx ρ s.heap v xv) (hit:Cj v H=some (xs,src)) (hres:Ed (chk src xs) (Hy cx.T Φ cond elt Γ) xs H=.ok ys H₂) (hz:ys.length < sizeLine)
    (k:∀ D C ρ' s',Full ρ s.heap ρ' s'.heap -> Rel cx (H₂++[.list ys]) ρ' s' -> VR cx ρ' s'.heap (.loc H₂.length) (.ref D) -> (∃ m,s'.heap.Ns C m) -> ¬ Aw ρ' C -> s.heap.get? C=none -> RR (.ref D) C (.ok .next) s') :
    wpAny (model cx.prog cx.w) A (pyIter xv) (fun it s₂=>wpAny (model cx.prog cx.w) A (newList []) (fun acc s₃=>wpAny (model cx.prog cx.w) A (newFunctionEnv csc env.globals (Ew env csc.names []) [] env.qual none .none (some env)) (fun cenv s₄ =>
      codeAny (model cx.prog cx.w) A (.compStart (.ListComp e [⟨.Name x px,iter,ifs,0⟩] csc pos) 0 it acc { cenv with scope:=relabel csc env }) (RR acc cenv.locals) s₄) E s₃) E s₂) E s:=by
  refine As (Bm hc) fun c1 c2 c3=>?_
  have lvB:Hr cx.h₀ s.heap:=fun b o e=>⟨o,R.base b o e⟩
  refine La R vr hit fun o go it0=>?_
  refine wpAny_newObj_type ?_
  refine Ic _ ?_
  -- the three heaps
  generalize hs1:({ s with heap:=s.heap.push o }:Shared)=s1 at it0
  have h1:s1.heap=s.heap.push o:=by rw [<- hs1]
  have F1:Full ρ s.heap ρ s1.heap:=by rw [h1];exact Full.push _ _ _
  have R1:Rel cx H ρ s1:=by rw [<- hs1];exact R.push o s.toks
  generalize hs2:({ s1 with heap:=s1.heap.push (A8 [] 0) }:Shared)=s2
  have h2:s2.heap=s1.heap.push (A8 [] 0):=by rw [<- hs2]
  have F2:Full ρ s1.heap ρ s2.heap:=by rw [h2];exact Full.push _ _ _
  have R2:Rel cx H ρ s2:=by rw [<- hs2];exact R1.push (A8 [] 0) s1.toks
  have z1:s1.heap.objs.size=s.heap.objs.size+1:=by rw [h1,Heap.size_push]
  have z2:s2.heap.objs.size=s.heap.objs.size+2:=by rw [h2,Heap.size_push,z1]
  have F12:Full ρ s.heap ρ s2.heap:=F1.trans F2
  have e2:EnvOk cx env sc ns Γ ρ s2.heap:=e0.full F12
  obtain ⟨ce,cf⟩:=Y6 R2 e2 hc hΓ
  have F3:Full ρ s2.heap ρ (B9 csc s2.heap):=Full.more (B1 csc s2.heap)
  have R3:Rel cx H ρ { s2 with heap:=B9 csc s2.heap }:=R2.more (tk:=s2.toks) (B1 csc s2.heap)
  have hDn:s.heap.get? s1.heap.objs.size=none:=Ff (by rw [z1];exact Nat.le_succ _)
  have hIn:s.heap.get? s.heap.objs.size=none:=Ap _
  have hCn:s.heap.get? s2.heap.objs.size=none:=Ff (by rw [z2];exact Nat.le_add_right _ _)
  have gD2:s2.heap.get? s1.heap.objs.size=some (A8 [] 0):=by rw [h2];exact Heap.get?_push_size _ rfl
  have it1:ItOk cx xs s.heap.objs.size 0 ρ s1.heap src:=by rw [h1];exact it0
  have go1:s1.heap.get? s.heap.objs.size=some o:=by rw [h1];exact go
  have it3:ItOk cx xs s.heap.objs.size 0 ρ (B9 csc s2.heap) src:=(it1.step F2.step fun o' eo=>by rw [h2];exact Heap.get?_push_of_some _ eo).step F3.step (B1 csc s2.heap _)
  have ci:CInv cx ρ s.heap s1.heap.objs.size s.heap.objs.size (Eg csc env s2.heap.objs.size) csc (Dp csc ns++[some x]) Γ xs src 0 [] H ρ { s2 with heap:=B9 csc s2.heap } :=
    ⟨F12.trans F3,R3,⟨none,ce⟩,it3,⟨[],0,B1 csc s2.heap _ _ gD2,.nil⟩,R.fresh_not hDn,R.fresh_not hIn⟩
  have loop:codeAny (model cx.prog cx.w) A (.compLoop (.ListComp e [⟨.Name x px,iter,ifs,0⟩] csc pos) 0 (.ref s.heap.objs.size) (.ref s1.heap.objs.size) (Eg csc env s2.heap.objs.size)) (RR (.ref s1.heap.objs.size) s2.heap.objs.size) { s2 with heap:=B9 csc s2.heap }:=by
    have lenN:(Dp csc ns).length=ns.length:=by unfold Dp;rw [List.length_map]
    refine U6 (by rw [List.length_append,lenN];rfl) (by rw [List.getElem?_append_right (by rw [lenN];exact Nat.le_refl _),lenN,Nat.sub_self];rfl) (s₁:=s) (ρ₁:=ρ) (l:=l) hh hDn hIn (by rw [z1];exact Nat.succ_ne_self _) hCn (fun q w1 w2=>?_) (E8 hnd c2) hΓ c2 fr lvB (fun Γ' h'=>pt.tests _ Γ' h') (fun Γ' h'=>pt.elts _ Γ' h') hz ci hres fun ρ' s' F' R' v' m' n'=>?_
    · have:=cf q w1 w2
      cases g:s.heap.get? q with
      | none=>rfl
      | some ob =>
        obtain ⟨o',eo'⟩:=F12.live q ob g
        rw [this] at eo';exact Aa eo'
    · exact k _ _ ρ' s' F' R' v' m' n' hCn
  have key:=codeAny_compStart_list loop (U7 (ρ:=ρ) (s:={ s2 with heap:=B9 csc s2.heap }) it3 loop)
  refine Eq.symm hs2▸?_
  exact key
theorem Gr {E E':Value -> Shared -> Prop} {use:Option (Value -> Sem Unit)} {Q Q':Value -> Shared -> Prop} {acc:Value} {C:Addr} {r:Result} {s':Shared} {M:Model} (h:compPost M A E use Q acc C r s') (k1:∀ a s,Q a s -> Q' a s) (k2:∀ e s,E e s -> E' e s):compPost M A E' use Q' acc C r s':=by
  unfold compPost at h ⊢
  cases r with
  | ok f =>
    cases use with
    | none=>refine ex1 h fun m zz=>Ac zz fun hm h=>?_;exact ⟨m,hm,fun h' hs=>k1 _ _ (h h' hs)⟩
    | some u=>exact wpAny_mono h (fun _ s'' ⟨m,hm,h⟩=>⟨m,hm,fun h' hs=>k1 _ _ (h h' hs)⟩) k2
  | error x =>
    cases use with
    | none=>refine ex1 h fun m zz=>Ac zz fun hm h=>?_;exact ⟨m,hm,fun h' hs c hc=>wpAny_mono (h h' hs c hc) (fun _ _ q=>q) k2⟩
    | some u=>refine ex1 h fun m zz=>Ac zz fun hm h=>?_;exact ⟨m,hm,fun h' hs c hc=>wpAny_mono (h h' hs c hc) (fun _ _ q=>q) k2⟩
theorem Y7 {α:Type} {m:M α} {H H':Hp} {a:α} (h:M.quiet m H=.ok a H'):m H=.ok a H':=by
  delta M.quiet at h
  cases e:m H with
  | exc c K=>rw [e] at h;exact Df h
  | _=>rw [e] at h;exact h
theorem U8 {α:Type} {m:M α} {H H':Hp} {c:Nat} (h:M.quiet m H=.exc c H'):False:=by
  delta M.quiet at h
  cases e:m H with
  | _=>rw [e] at h;cases h
noncomputable def Ik (T:Tab) (Φ:Funs) (cond:MEo) (elt:ME) (Γ:Env') (v:Val):M Val:=(M.look (Cj v)).bnd fun p =>
  (M.quiet (Ed (chk p.2 p.1) (Hy T Φ cond elt Γ) p.1)).bnd fun ys=>if ys.length < lid then M.alloc (.list ys) else .bad
theorem N0 (T:Tab) (Φ:Funs) (cond:MEo) (elt it:ME) (Γ:Env'):Ai T Φ (.comp elt it cond) Γ=(Ai T Φ it Γ).bnd (Ik T Φ cond elt Γ):=by
  rfl
theorem Fw {T:Tab} {Φ:Funs} {cond:MEo} {elt:ME} {Γ:Env'} {v:Val} {H:Hp}:Ik T Φ cond elt Γ v H=.bad \/
    ∃ xs src ys H₂,Cj v H=some (xs,src) /\ Ed (chk src xs) (Hy T Φ cond elt Γ) xs H=.ok ys H₂ /\ ys.length < sizeLine /\ Ik T Φ cond elt Γ v H=.ok (.loc H₂.length) (H₂++[.list ys]):=by
  unfold Ik
  cases e1:Cj v H with
  | none=>left;rw [Cu (E6 e1)]
  | some p =>
    rw [Dr (E5 e1)]
    obtain ⟨xs,src⟩:=p
    dsimp only
    cases e2:M.quiet (Ed (chk src xs) (Hy T Φ cond elt Γ) xs) H with
    | bad=>left;rw [Cu e2]
    | exc c H'=>exact (U8 e2).elim
    | ok ys H₂ =>
      rw [Dr e2]
      by_cases q:ys.length < lid
      · right
        refine ⟨xs,src,ys,H₂,rfl,Y7 e2,by skip;exact q,?_⟩
        rw [if_pos q];rfl
      · left;rw [if_neg q];rfl
theorem U9 {h:Heap} {C:Addr} {m:Str -> Option Value} (n:h.Ns C m):∃ o,h.get? C=some o /\ ¬ Hb o /\ ∀ D,¬ Dg o D:=by
  refine Ah fun G kG=>?_
  refine ex3 n fun o es ep zz=>As zz fun e d _=>?_
  refine kG ?_
  exact ⟨o,e,fun f=>f.notDict _ _ d,fun D f=>f.notDict _ _ d⟩
theorem Y8 (hh:A.handled=none) {it:ME} {i:Expr} {px pos:Pos} (hi:Ds i=true) (hc:Jd sc csc x=true) (hnd:∀ (i j:Nat) (y:Str),ns[i]?=some (some y) -> ns[j]?=some (some y) -> i=j) (hΓ:Γ.length=ns.length)
    (pt:CParts cx A Φ l csc (Dp csc ns++[some x]) cond elt ifs e) (y:EOk cx A ((Amb.env cx env sc ns Γ).and (Amb.frames cx l)) Φ env Γ it i) :
    EOk cx A ((Amb.env cx env sc ns Γ).and (Amb.frames cx l)) Φ env Γ (.comp elt it cond) (.ListComp e [⟨.Name x px,i,ifs,0⟩] csc pos):=by
  refine As (Bm hc) fun c1 c2 c3=>?_
  refine EOk.of ?_ rfl
  intro H ρ s R p
  rw [N0]
  refine Ay.bindK (K':=fun Q E s=>wpAny (model cx.prog cx.w) A (eval (.ListComp e [⟨.Name x px,i,ifs,0⟩] csc pos) env) Q E s)
    (K:=fun xv Q E s=>wpAny (model cx.prog cx.w) A (pyIter xv) (fun it s₂=>wpAny (model cx.prog cx.w) A (newList []) (fun acc s₃=>wpAny (model cx.prog cx.w) A (newFunctionEnv csc env.globals (Ew env csc.names []) [] env.qual none .none (some env)) (fun cenv s₄ =>
      codeAny (model cx.prog cx.w) A (.compStart (.ListComp e [⟨.Name x px,i,ifs,0⟩] csc pos) 0 it acc { cenv with scope:=relabel csc env }) (compPost (model cx.prog cx.w) A E none Q acc cenv.locals) s₄) E s₃) E s₂) E s) (y.val H ρ s R p) ?_ ?_ ?_
  · intro b xv H1 ρ1 s1 _ F1 R1 vr
    rcases Fw (T:=cx.T) (Φ:=Φ) (cond:=cond) (elt:=elt) (Γ:=Γ) (v:=b) (H:=H1) with w | ⟨xs,src,ys,H₂,w1,w2,w3,w4⟩
    · rw [w];trivial
    · rw [w4]
      refine Ld hh hc hnd hΓ pt R1 (p.1.full F1) (p.2.full F1) vr w1 w2 w3 fun D C ρ' s' F' R' v' m' n' hC=>?_
      refine Ah fun G kG=>?_
      obtain ⟨m,hm⟩:=m'
      refine ex1 (U9 hm) fun oC zz=>As zz fun gC nf nx=>?_
      refine kG ?_
      have lvB:Hr cx.h₀ s1.heap:=fun b o e=>⟨o,R1.base b o e⟩
      refine ⟨m,hm,fun h' hs=>?_⟩
      have st:Step ρ' s'.heap ρ' h':=Step.ext gC hs.extBut nf nx
      exact ⟨ρ',F'.fresh hC hs.extBut,R'.ext (tk:=s'.toks) gC hs.extBut nf nx n' (lvB.none hC),v'.step st⟩
  · intro xv Q E Q' E' s h k1 k2
    exact wpAny_mono h (fun it s₂ h2=>wpAny_mono h2 (fun acc s₃ h3=>wpAny_mono h3 (fun cenv s₄ h4=>codeAny_mono h4 fun r s' hr=>Gr hr k1 k2) k2) k2) k2
  · intro Q E h
    exact wpAny_comprehension_free (use:=none) (g:=⟨.Name x px,i,ifs,0⟩) (gs:=[]) rfl (fun xv=>E7 hi env xv)
      (Gq fun p' hp' hf=>p.1.st.hasCell p'.1 (by rcases (c3 p' hp').2 hf with w | w;exact .inl w;exact .inr w)) c1 (fun p' hp' hl=>by rw [(c3 p' hp').1,hl]) h
end
section
variable {cx:Cx} {N:Names} {A:Around} {Φ:Funs} {l:List Env} {d:Nat} {env:Env} {sc:Scope} {ns:List (Option Str)} {Γ:Env'} {H:Hp} {ρ:Rho} {s:Shared}
theorem VR.handed {m:Val} {v:Value} {h:Heap} (x:VR cx ρ h m v):handedOut v=pure v:=by cases x <;> rfl
theorem Rel.instAt (R:Rel cx H ρ s) {i c:Nat} {fs:List (Nat × Val)} {p:Addr × Addr} (hH:H[i]?=some (.inst c fs)) (hρ:ρ[i]?=some p) :
    ∃ C o mA,(cx.T.meth c 0).isSome=true /\ cx.cls[c]?=some (.ref C) /\ s.heap.get? p.1=some o /\ o.cls=.ref C /\ (∀ c,o.data≠.cls c) /\ o.dict=some p.2 /\ p.2≠p.1 /\ s.heap.Ns1 p.2 mA /\
      (∀ n v,fs.lookup n=some v -> ∃ y x,cx.attrs[n]?=some y /\ mA y=some x /\ VR cx ρ s.heap v x) /\ (∀ y,mA y≠none -> ∃ n v,cx.attrs[n]?=some y /\ fs.lookup n=some v):=by
  have:=R.objs i _ p hH hρ
  generalize ho:HObj.inst c fs=o at this
  cases this with
  | list _ _ _=>exact nomatch ho
  | dict _ _ _=>cases ho
  | hid _=>cases ho
  | inst k0 k e k1 k2 k3 k4 n f g=>cases ho;exact ⟨_,_,_,k0,k,e,k1,k2,k3,k4,n,f,g⟩
theorem Px {h:Heap} {a b C:Addr} {o:Obj} {mA:Str -> Option Value} (e:h.get? a=some o) (k1:o.cls=.ref C) (k2:∀ c,o.data≠.cls c) (k3:o.dict=some b) (k4:b≠a) (n:h.Ns1 b mA):h.Inst a C mA :=
  ⟨o,e,k1,k2,.inr ⟨b,k3,k4,n⟩⟩
theorem E3.looks {α β:Type} {f:Hp -> Option β} {K:(α -> Shared -> Prop) -> (Value -> Shared -> Prop) -> Shared -> Prop} {V:β -> α -> Amb} (y:∀ b,f H=some b -> E3 cx (.ok b H) K V ρ s):E3 cx (M.look f H) K V ρ s:=by
  cases e:f H with
  | none=>rw [E6 e];trivial
  | some b=>rw [E5 e];exact y b e
theorem Sp (CB:ClsBase cx N) (R:Rel cx H ρ s) {i c n:Nat} {fs:List (Nat × Val)} {p:Addr × Addr} {y:Str} {m:Val} (hH:H[i]?=some (.inst c fs)) (hρ:ρ[i]?=some p) (hy:cx.attrs[n]?=some y) (hm:fs.lookup n=some m) {Q:Value -> Shared -> Prop} {E:Value -> Shared -> Prop}
    (k:∀ v tk,VR cx ρ s.heap m v -> Q v { s with toks:=tk }):wpAny (model cx.prog cx.w) A (getAttr (.ref p.1) y true) Q E s:=by
  refine Ah fun G kG=>?_
  refine ex3 (R.instAt hH hρ) fun C o mA zz=>Aby zz fun k0 kc e k1 k2 k3 k4 nn f g=>?_
  refine Afm ((CB.cls c C kc k0).is) fun nm q Nn bs sn sub col dd q0 q1 q2 q3 q5 mN zz=>R6 zz fun hC hN h1 h2 h3 h4 h5=>?_
  refine ex2 (f n m hm) fun y' x zz=>As zz fun hy' hx vr=>?_
  refine kG ?_
  rw [hy] at hy';cases hy'
  exact load_attr (R.base _ _ hC) (hN.keeps R.base) h1 (h4 n y hy).1 (h4 n y hy).2 (Px e k1 k2 k3 k4 nn) hx vr.handed (k x _ vr)
set_option tactic.hygienic true in
theorem Y9 (CB:ClsBase cx N) {P:Amb} {a:ME} {n:Nat} {v:Expr} {y:Str} {pos:Pos} (hn:Do N.attrs y n=true) (hs:B7 v=true) (x:EOk cx A P Φ env Γ a v) :
    EOk cx A P Φ env Γ (.attr a n) (.Attribute v y pos):=by
  refine EOk.of ?_ rfl
  intro H ρ s R p
  refine Ay.bindK (K':=fun Q E s=>wpAny (model cx.prog cx.w) A (eval (.Attribute v y pos) env) Q E s) (K:=fun o Q E s=>wpAny (model cx.prog cx.w) A (getAttr o y true) Q E s) (x.val H ρ s R p) ?_ (fun _=>Ih _) ?_
  · intro b o H1 ρ1 s1 _ F1 R1 vr
    have vr':VR cx ρ1 s1.heap b o:=vr
    refine E3.looks fun m hm=>?_
    split at hm
    · rename_i i
      refine ex1 vr'.loc_inv fun p1 zz=>Ac zz fun hp1 hr0=>?_;refine Eq.symm hr0▸?_
      split at hm
      · rename_i c fs hi
        exact Sp CB R1 hi hp1 (CB.attr y n (C8 hn)) hm fun v tk vr=>⟨ρ1,Full.refl _ _,R1.toks tk,vr⟩
      · exact Aa hm
    · exact Aa hm
  · intro Q E h
    rw [arm_eval_Attribute,C3 hs]
    exact wpAny_bind (wpAny_mono h (fun o s₁ h₁=>wpAny_bind (wpAny_standAt (wpAny_bind (wpAny_holding (wpAny_mono h₁ (fun r s₂ h₂=>wpAny_bind (wpAny_letTemporaryGo (wpAny_pure h₂))) fun _ _ q=>q))))) fun _ _ q=>q)
theorem Jj:∀ (fs:List (Nat × Val)) (n:Nat) (v:Val),(Tj fs n v).lookup n=some v
  | [],n,v=>by
    show List.lookup n [(n,v)]=_
    simp
  | (m,u) :: r,n,v=>by
    rw [M7]
    by_cases e:m=n
    · rw [if_pos e,e];simp
    · rw [if_neg e,List.lookup_cons]
      have:(n == m)=false:=by simpa using fun q:n=m=>e q.symm
      rw [this];exact Jj r n v
theorem Hf:∀ (fs:List (Nat × Val)) (n k:Nat) (v:Val),k≠n -> (Tj fs n v).lookup k=fs.lookup k
  | [],n,k,v,h=>by
    have:(k == n)=false:=by simpa using h
    show List.lookup k [(n,v)]=none
    rw [List.lookup_cons,this];rfl
  | (m,u) :: r,n,k,v,h=>by
    rw [M7]
    by_cases e:m=n
    · rw [if_pos e,e,List.lookup_cons,List.lookup_cons]
      have:(k == n)=false:=by simpa using h
      rw [this]
    · rw [if_neg e,List.lookup_cons,List.lookup_cons,Hf r n k v h]
theorem Sq (CB:ClsBase cx N) (R:Rel cx H ρ s) {i c n:Nat} {fs:List (Nat × Val)} {p:Addr × Addr} {y:Str} {m:Val} {v:Value} (hH:H[i]?=some (.inst c fs)) (hρ:ρ[i]?=some p) (hy:cx.attrs[n]?=some y) (vr:VR cx ρ s.heap m v) {Q:Unit -> Shared -> Prop} {E:Value -> Shared -> Prop}
    (k:∀ s',Full ρ s.heap ρ s'.heap -> Rel cx (H.set i (.inst c (Tj fs n m))) ρ s' -> Q () s'):wpAny (model cx.prog cx.w) A (setAttr (.ref p.1) y v) Q E s:=by
  refine Ah fun G kG=>?_
  refine ex3 (R.instAt hH hρ) fun C o mA zz=>Aby zz fun k0 kc e k1 k2 k3 k4 nn f g=>?_
  refine Afm ((CB.cls c C kc k0).is) fun nm q Nn bs sn sub col dd q0 q1 q2 q3 q5 mN zz=>R6 zz fun hC hN h1 h2 h3 h4 h5=>?_
  refine kG ?_
  have hxC:p.1≠C:=fun w=>by have:=(R.new p (List.mem_of_getElem? hρ)).1;rw [w,hC] at this;cases this
  refine store_attr F.store_object (R.base _ _ hC) (hN.keeps R.base) h3 (h4 n y hy).1 (h4 n y hy).2 hxC (Px e k1 k2 k3 k4 nn) (fun h' tk' I' hk hsame=>?_)
    (ns:=cx.attrs) (fun z hz=>by refine ex2 (g z hz) fun j _ zz=>Ac zz fun hj _=>?_;exact List.mem_of_getElem? hj) CB.few
  refine Ah fun G kG=>?_
  refine ex1 (hsame o e) fun o₁ zz=>Fe zz fun e1 c1 d1 _ dd1=>?_
  refine ex1 I' fun o₂ zz=>By zz fun e2 c2 n2 hd2=>?_
  refine kG ?_
  rw [e1] at e2;cases e2
  have nn':h'.Ns1 p.2 (fun z=>if z=y then some v else mA z):=by
    rcases hd2 with ⟨w,_⟩ | ⟨b,w,_,w2⟩
    · rw [dd1 _ k3] at w;cases w
    · rw [dd1 _ k3] at w;cases w;exact w2
  have keep:∀ b ob,s.heap.get? b=some ob -> b≠p.1 -> b≠p.2 -> h'.get? b=some ob:=fun b ob eb w1 w2=>hk b ob w1 (fun o₀ dx f1 f2=>by rw [e] at f1;cases f1;rw [k3] at f2;cases f2;exact w2) eb
  have lv:Hr s.heap h':=fun b ob eb=>by
    by_cases w1:b=p.1
    · rw [w1];exact ⟨o₁,e1⟩
    · by_cases w2:b=p.2
      · refine ex3 nn' fun on _ _ zz=>Ac zz fun en _=>?_;rw [w2];exact ⟨on,en⟩
      · exact ⟨ob,keep b ob eb w1 w2⟩
  have own:∀ b,¬ Aw ρ b -> b≠p.1 /\ b≠p.2:=fun b n=>⟨fun e=>n ⟨p,List.mem_of_getElem? hρ,.inl e⟩,fun e=>n ⟨p,List.mem_of_getElem? hρ,.inr e⟩⟩
  have F:Full ρ s.heap ρ h':=⟨Jc.refl _ _,fun b ob eb n=>⟨ob,keep b ob eb (own b n).1 (own b n).2,.refl ob⟩,lv⟩
  obtain ⟨_,R'⟩:=R.set (tk:=tk') (o:=.inst c (Tj fs n m)) hρ keep lv (by
    obtain ⟨p1,p2⟩:=p
    refine .inst k0 kc e1 (c1.trans k1) n2 (dd1 _ k3) k4 nn' (fun j u hj=>?_) (fun z hz=>?_)
    · by_cases w:j=n
      · subst w
        rw [Jj] at hj;cases hj
        exact ⟨y,v,hy,by simp,vr.step F.step⟩
      · rw [Hf _ _ _ _ w] at hj
        refine ex2 (f j u hj) fun y' x zz=>As zz fun hy' hx vx=>?_
        have ne:y'≠y:=fun q=>w (CB.inj j n y (q▸hy') hy)
        exact ⟨y',x,hy',by simp [ne,hx],vx.step F.step⟩
    · by_cases w:z=y
      · exact ⟨n,m,w▸hy,Jj _ _ _⟩
      · simp only [w,if_false] at hz
        refine ex2 (g z hz) fun j u zz=>Ac zz fun hj hu=>?_
        have ne:j≠n:=fun q=>w (by rw [q,hy] at hj;cases hj;rfl)
        exact ⟨j,u,hj,by rw [Hf _ _ _ _ ne];exact hu⟩)
  exact k _ F R'
theorem Kl {o:Expr} {name:Str} {apos pos:Pos} {args:List Expr} {Q:Value -> Shared -> Prop} {E:Value -> Shared -> Prop} (hs:B7 o=true) (hp:Bf env args) (hz:args.length <= 20) (hline:(apos.endLine == pos.line)=true)
    (h:wpAny (model cx.prog cx.w) A (eval o env) (fun ov s₁=>∀ pl,wpAny (model cx.prog cx.w) A (getMethod ov name pl) (fun r s₂=>wpAny (model cx.prog cx.w) A (callWith pos r.1 r.2 (args.map fun e=>(false,eval e env)) []) Q E s₂) E s₁) E s) :
    wpAny (model cx.prog cx.w) A (eval (.Call (.Attribute o name apos) args [] pos) env) Q E s:=by
  rw [arm_eval_Call,C3 hs]
  refine wpAny_bind (wpAny_mono h (fun ov s₁ h₁=>?_) fun _ _ e=>e)
  refine wpAny_bind (wpAny_standAt ?_)
  have hform:methodCallForm (args.length+([]:List Keyword).length) (backTo pos (starEach args env)) (backToKw pos (keywordEach [] env))=true:=Gk hp hz
  have hpos:methodCallPos true o env apos pos=pure pos:=by unfold methodCallPos;simp [hline]
  unfold methodCall
  rw [hform,Al pos hp]
  refine wpAny_bind (wpAny_holding (wpAny_mono (h₁ _) (fun r s₂ h₂=>?_) fun _ _ e=>e))
  exact wpAny_bind (wpAny_of_eq hpos h₂)
theorem Sr {T:Tab} {v:Val} {m k:Nat} (h:(match v with | .loc i=>(match H[i]? with | some (.inst c _)=>T.meth c m | _=>none) | _=>none)=some k):∃ i c fs,v=.loc i /\ H[i]?=some (.inst c fs) /\ T.meth c m=some k:=by
  split at h
  · split at h
    · exact ⟨_,_,_,rfl,by assumption,h⟩
    · exact Aa h
  · exact Aa h
theorem Va (CB:ClsBase cx N) (hΦ:Gl cx Φ d) (room:Room A d) (hfr:A.frames=some l) {a:ME} {m:Nat} {es:MEs} {o:Expr} {y:Str} {apos pos:Pos} {xs:List Expr} (hm:Do N.meths y m=true) (hes:ckEs N sc ns es xs=true) (hz:xs.length <= 20) (hs:B7 o=true) (hline:(apos.endLine == pos.line)=true)
    (x:EOk cx A ((Amb.env cx env sc ns Γ).and (Amb.frames cx l)) Φ env Γ a o) (y':Sim cx A ((Amb.env cx env sc ns Γ).and (Amb.frames cx l)) (spliced (xs.map fun e=>(false,eval e env))) (evalEs cx.T Φ es Γ) (Amb.vrs cx)) :
    EOk cx A ((Amb.env cx env sc ns Γ).and (Amb.frames cx l)) Φ env Γ (.umeth a m es) (.Call (.Attribute o y apos) xs [] pos):=by
  refine EOk.of ?_ rfl
  intro H ρ s R p
  first | rw [I9] | rw [Na] | rw [Gf] | rw [Tq] | rw [E0] | rw [Tr]
  refine Ay.bindK (K':=fun Q E s=>wpAny (model cx.prog cx.w) A (eval (.Call (.Attribute o y apos) xs [] pos) env) Q E s) (K:=fun ov Q E s=>∀ pl,wpAny (model cx.prog cx.w) A (getMethod ov y pl) (fun r s₂=>wpAny (model cx.prog cx.w) A (callWith pos r.1 r.2 (xs.map fun e=>(false,eval e env)) []) Q E s₂) E s) (x.val H ρ s R p) ?_ ?_
    (fun Q E h=>Kl hs (Cm hes) hz hline h)
  · intro b ov H1 ρ1 s1 _ F1 R1 vr
    have vr':VR cx ρ1 s1.heap b ov:=vr
    refine E3.lookK fun k hk=>?_
    refine Ah fun G kG=>?_
    refine ex3 (Sr hk) fun i c fs zz=>As zz fun zr3 hi hk'=>?_;subst zr3
    refine ex1 vr'.loc_inv fun p1 zz=>Ac zz fun hp1 zr2=>?_;subst zr2
    refine ex3 (R1.instAt hi hp1) fun C ob mA zz=>Aby zz fun k0 kc e k1 k2 k3 k4 nn f g=>?_
    refine Afm ((CB.cls c C kc k0).is) fun nm q Nn bs sn sub col dd q0 q1 q2 q3 q5 mN zz=>R6 zz fun hC hN h1 h2 h3 h4 h5=>?_
    refine ex3 (h5 y m k (C8 hm) hk') fun fa fo fd zz=>R6 zz fun hfa hmN hfo hfc hfd hna zz=>ex1 zz fun r hr=>?_
    refine kG ?_
    have hmA:mA y=none:=by
      cases w:mA y with
      | none=>rfl
      | some z=>refine ex2 (g y (by rw [w];exact fun q=>nomatch q)) fun j _ zz=>Ac zz fun hj _=>?_;exact absurd hj (hna j)
    refine E3.mono (E4 (f:=.ref fa) (K:=fun vs Q E s=>(s.heap.get? fa=some fo /\ fo.data=.func fd) /\ wpAny (model cx.prog cx.w) A (call (.ref fa) (.ref p1.1 :: vs)) Q E s) (fun e=>Fg (e▸hes)) R1 (y' H1 ρ1 s1 R1 (((Amb.env cx env sc ns Γ).and (Amb.frames cx l)).st _ _ _ _ p F1)) ?_ ?_) ?_
    · intro ms vs H2 ρ2 s2 _ F2 R2 vrs
      exact E3.andK ⟨R2.base _ _ hfo,hfd⟩ (hΦ k fa (.loc i :: ms) (.ref p1.1 :: vs) A l hfa room.toF hfr H2 ρ2 s2 R2 ⟨.cons (VR.step F2.step vr) vrs,(p.2.full F1).full F2⟩)
    · exact fun vs Q E Q' E' s h k1 k2=>⟨h.1,wpAny_mono h.2 k1 k2⟩
    · intro Q E h pl
      refine method_of (R1.base _ _ hC) (hN.keeps R1.base) h1 h2 hmN (R1.base _ _ hfo) hfc hr (Px e k1 k2 k3 k4 nn) hmA ?_
      exact Calls.callWith_function (o:=fo) (fd:=fd) (wpAny_mono h (fun b s₁ h₁=>by rw [h₁.1];exact h₁.2) fun _ _ q=>q)
  · exact fun ov Q E Q' E' s h k1 k2 pl=>wpAny_mono (h pl) (fun r s₂ h₂=>wpAny_mono h₂ k1 k2) k2
theorem callWith_own {nm q:Str} {C Nn:Addr} {bs:List Value} {sn:List Str} {sub:List Value} {col:Option Bool} {dd:Option Addr} {k0 k1 k2 k3 k5:Option Value} {pos:Pos} {args:List (Bool × Sem Value)} {Q:Value -> Shared -> Prop} {E:Value -> Shared -> Prop} (hplain:args.any (·.1)=false)
    (h:wpAny (model cx.prog cx.w) A (evalArgs (.ref C) true args []) (fun as s₁=>as.kw=[] /\ s₁.heap.get? C=some (excClassObj nm q C Nn bs [.type "object"] true sn sub false col dd k0 k1 k2 k3 k5 "object.__new__") /\ wpAny (model cx.prog cx.w) A (call (.ref C) as.pos) Q E s₁) E s) :
    wpAny (model cx.prog cx.w) A (callWith pos (.ref C) [] args []) Q E s:=by
  unfold callWith
  refine wpAny_bind (wpAny_holding (wpAny_mono h (fun as s₁ h₁=>?_) fun _ _ x=>x))
  refine As h₁ fun e hC hc=>?_
  obtain ⟨ps,kw⟩:=as
  dsimp only at e hc
  subst e
  obtain ⟨hh,g,dr,t,os⟩:=s₁
  have f1:=tc_lookup
  have hT:(⟨hh,g,dr,t,os⟩:Shared).TypeIs (.ref C) "type":=⟨_,hC,rfl⟩
  refine wpAny_bind (wpAny_standAt ?_)
  unfold keeperOf specialOf
  repeat (any_goals (first | assumption | with_reducible refine wpAny_loadPart_at hC ?_ | with_reducible refine wpAny_load' hC ?_ | wp_step))
  rw [if_pos (by rfl),hplain]
  exact wpAny_bind (wpAny_mono hc (fun r s' hr=>wpAny_bind (wpAny_holding (wpAny_point (wpAny_pure hr)))) fun _ _ x=>x)
theorem Room.made {C:Addr} {vs:List Value} (r:Room A d):RoomF (A.under (.builtin "type.__call__" ⟨.ref C :: vs,[]⟩)) d:=by
  refine ⟨r.hh,?_,?_⟩
  · show A.depth+1+5 * d+147 < recursionLimit
    have:=r.depth;exact Aoc this
  · show A.units+1+20 * d+90 < cLine
    have:=r.units;exact Aod this
theorem Vb {T:Tab} {c k:Nat} {ms:List Val} (h:T.meth c 0=some k):Xn T Φ c ms H=(match Φ k (.loc H.length :: ms) (H++[.inst c []]) with
    | .ok r H'=>(match r with | .none=>Res.ok (.loc H.length) H' | _=>.bad)
    | .exc e H'=>.exc e H'
    | .bad=>.bad):=by
  unfold Xn
  rw [h]
  show M.bnd _ _ _=_
  rw [Dr (show M.alloc (.inst c []) H=.ok (.loc H.length) (H++[.inst c []]) from rfl)]
  cases e:Φ k (.loc H.length :: ms) (H++[.inst c []]) with
  | bad=>rw [Cu e]
  | exc x H'=>rw [Eb e]
  | ok r H'=>rw [Dr e];cases r <;> rfl
theorem Za (CB:ClsBase cx N) (hΦ:Gl cx Φ d) (room:Room A d) (hfr:A.frames=some l) {c:Nat} {C:Addr} {ms:List Val} {vs:List Value} (hc:cx.cls[c]?=some (.ref C)) (R:Rel cx H ρ s) (vrs:VRs cx ρ s.heap ms vs) (fr:Bo cx l ρ s.heap) :
    E3 cx (Xn cx.T Φ c ms H) (fun Q E s=>wpAny (model cx.prog cx.w) A (call (.ref C) vs) Q E s) (Amb.vr cx) ρ s:=by
  cases hk:cx.T.meth c 0 with
  | none=>unfold Xn;rw [hk];trivial
  | some k =>
    have hks:(cx.T.meth c 0).isSome=true:=by rw [hk];rfl
    refine Ah fun G kG=>?_
    refine Afm ((CB.cls c C hc hks).is) fun nm q Nn bs sn sub col dd q0 q1 q2 q3 q5 mN zz=>R6 zz fun hC hN h1 h2 h3 h4 h5=>?_
    refine ex3 (h5 _ 0 k CB.init hk) fun fa fo fd zz=>R6 zz fun hfa hmN hfo hfc hfd hna _=>?_
    refine kG ?_
    rw [Vb hk]
    have main:∀ (Q:Value -> Shared -> Prop) (E:Value -> Shared -> Prop),(∀ h' x dx,Heap.MadeObj s.heap h' x dx C -> wpAny (model cx.prog cx.w) (A.under (.builtin "type.__call__" ⟨.ref C :: vs,[]⟩)) (call (.ref fa) (.ref x :: vs)) (fun r s'=>r=.none /\ Q (.ref x) s') E { s with heap:=h' }) -> wpAny (model cx.prog cx.w) A (call (.ref C) vs) Q E s:=by
      intro Q E hq
      exact wpAny_call_obj_init F.objNew (R.base _ _ hC) (hN.keeps R.base) hmN (R.base _ _ hfo) hfc hq
    have Dp:∀ h' x dx,Heap.MadeObj s.heap h' x dx C -> Full ρ s.heap (ρ++[(x,dx)]) h' /\ Ay cx (A.under (.builtin "type.__call__" ⟨.ref C :: vs,[]⟩)) (Φ k (.loc H.length :: ms) (H++[.inst c []])) (call (.ref fa) (.ref x :: vs)) (Amb.vr cx) (ρ++[(x,dx)]) { s with heap:=h' }:=by
      intro h' x dx mo
      refine Ah fun G kG=>?_
      refine ex1 mo.inst fun o zz=>By zz fun ho oc od odd=>?_
      have hdx:=mo.dict o ho
      have nn:dx≠x /\ h'.Ns1 dx (fun _=>none):=by
        rcases odd with ⟨w,_⟩ | ⟨b,w,w1,w2⟩
        · rw [hdx] at w;cases w
        · rw [hdx] at w;cases w;exact ⟨w1,w2⟩
      obtain ⟨F,R'⟩:=R.alloc (tk:=s.toks) (o:=.inst c []) (p:=(x,dx)) mo.keeps ⟨mo.newX,mo.newD⟩ (.inst hks hc ho oc od hdx nn.1 nn.2 (fun n v hv=>by cases hv) (fun y hy=>absurd rfl hy))
      refine kG ?_
      have vx:VR cx (ρ++[(x,dx)]) h' (.loc H.length) (.ref x):=VR.loc (p:=(x,dx)) (by rw [R.len,List.getElem?_append_right (Nat.le_refl _)];simp)
      exact ⟨F,hΦ k fa (.loc H.length :: ms) (.ref x :: vs) _ l hfa room.made hfr _ _ _ R' ⟨.cons vx (vrs.step F.step),fr.full F⟩⟩
    cases hr:Φ k (.loc H.length :: ms) (H++[.inst c []]) with
    | bad=>trivial
    | exc e H' =>
      refine main _ _ fun h' x dx mo=>?_
      obtain ⟨F,sm⟩:=Dp h' x dx mo
      rw [hr] at sm
      exact wpAny_mono sm (fun _ _ q=>q.elim) fun ex s' ⟨ρ',F',R',fl⟩=>⟨ρ',F.trans F',R',fl.older F.live⟩
    | ok r H' =>
      cases r with
      | none =>
        refine main _ _ fun h' x dx mo=>?_
        obtain ⟨F,sm⟩:=Dp h' x dx mo
        rw [hr] at sm
        refine wpAny_mono sm (fun r' s' ⟨ρ',F',R',vr⟩=>⟨VR.none_inv vr,ρ',F.trans F',R',?_⟩) fun _ _ q=>q.elim
        exact VR.loc (p:=(x,dx)) (F'.grow.get (by rw [R.len,List.getElem?_append_right (Nat.le_refl _)];simp))
      | _=>trivial
theorem Adp (B:Base cx N) (hΦ:Gl cx Φ d) (room:Room A d) (hfr:A.frames=some l) {c:Nat} {es:MEs} {x:Str} {np pos:Pos} {xs:List Expr} (hg:Bd sc x=true) (hk:Do N.clss x c=true) (hes:ckEs N sc ns es xs=true)
    (y':Sim cx A ((Amb.env cx env sc ns Γ).and (Amb.frames cx l)) (spliced (xs.map fun e=>(false,eval e env))) (evalEs cx.T Φ es Γ) (Amb.vrs cx)) :
    EOk cx A ((Amb.env cx env sc ns Γ).and (Amb.frames cx l)) Φ env Γ (.new c es) (.Call (.Name x np) xs [] pos):=by
  refine EOk.of ?_ rfl
  intro H ρ s R p
  first | rw [I9] | rw [Na] | rw [Gf] | rw [Tq] | rw [E0] | rw [Tr]
  cases hm:cx.T.meth c 0 with
  | none=>trivial
  | some k =>
    have hks:(cx.T.meth c 0).isSome=true:=by rw [hm];rfl
    refine Ah fun G kG=>?_
    refine ex2 B.ns fun mg mb zz=>Kp zz fun ng nb _ _ q _=>?_
    refine ex1 (q x c (C8 hk)) fun Cv zz=>Ac zz fun hC hx=>?_
    obtain ⟨C,rfl⟩:=B.cls.ref c Cv hC hks
    refine Afm ((B.cls.cls c C hC hks).is) fun nm qn Nn bs sn sub col dd q0 q1 q2 q3 q5 mN zz=>Ac zz fun hCo _=>?_
    refine kG ?_
    refine E3.mono (E4 (f:=.ref C) (K:=fun vs Q E s=>s.heap.get? C=some (excClassObj nm qn C Nn bs [.type "object"] true sn sub false col dd q0 q1 q2 q3 q5 "object.__new__") /\ wpAny (model cx.prog cx.w) A (call (.ref C) vs) Q E s) (fun e=>Fg (e▸hes)) R (y' H ρ s R p) ?_ ?_) ?_
    · intro ms vs H1 ρ1 s1 _ F1 R1 vrs
      exact E3.andK (R1.base _ _ hCo) (Za B.cls hΦ room hfr hC R1 vrs (p.2.full F1))
    · exact fun vs Q E Q' E' s h k1 k2=>⟨h.1,wpAny_mono h.2 k1 k2⟩
    · intro Q E h
      refine wpAny_Call_ofName (wp_glob R p.1.st hg ng nb hx ?_)
      rw [Al pos (Cm hes)]
      exact callWith_own (Cq _) (wpAny_mono h (fun b s₁ h₁=>by refine As h₁ fun h1 h2 h3=>?_;exact ⟨h1,h2,h3⟩) fun _ _ q=>q)
end
end Mine.Internal
set_option maxRecDepth 100000
namespace Mine.Internal
open PySem
section
variable {cx:Cx} {N:Names} {A:Around} {P:Amb} {Φ:Funs} {l:List Env} {d:Nat} {env:Env} {sc:Scope} {ns:List (Option Str)} {Γ:Env'} {H:Hp} {ρ:Rho} {s:Shared}
theorem VRs.cut {h:Heap} {ms:List Val} {vs:List Value} (r:VRs cx ρ h ms vs) (p:Bool × Nat):VRs cx ρ h (cut p ms) (cut p vs):=by
  obtain ⟨b,k⟩:=p
  cases b with
  | true=>exact r.drop k
  | false=>exact VRs.take r k
theorem cut_le {α:Type} (p:Bool × Nat) (xs:List α):(cut p xs).length <= xs.length:=by
  obtain ⟨b,k⟩:=p
  cases b with
  | true=>show (xs.drop k).length <= _;rw [List.length_drop];exact Aoe
  | false=>show (xs.take k).length <= _;rw [List.length_take];exact Aof
set_option tactic.hygienic true in
theorem Vc {h:Heap} {lo hi:Val} {vl vu:Value} {p:Bool × Nat} {n:Nat} (e:Afp lo hi n=some p) (x:VR cx ρ h lo vl) (y:VR cx ρ h hi vu):∃ a b,IsPart vl a /\ IsPart vu b /\ ∀ vs:List Value,vs.length=n -> slicePick vs.toArray a b none=(cut p vs).toArray:=by
  cases lo with
  | int k =>
    cases hi with
    | none =>
      have e:some (true,if 0 <= k then k.toNat else n - k.natAbs)=some p:=e
      cases e
      obtain ⟨t,hr0⟩:=x.int_inv;refine Eq.symm hr0▸?_
      obtain rfl:=y.none_inv
      refine ⟨_,_,.int k t,.none,fun vs hn=>?_⟩
      by_cases h0:0 <= k
      · rw [if_pos h0]
        have:=slicePick_from' vs.toArray k.toNat
        rwa [Int.toNat_of_nonneg h0] at this
      · rw [if_neg h0,<- hn]
        have:=slicePick_last vs.toArray k.natAbs (by exact Aog h0)
        rwa [show -(k.natAbs:Int)=k by exact Aoh h0] at this
    | _=>exact Aa e
  | none =>
    cases hi with
    | int k =>
      have e:(if 0 <= k then some (false,k.toNat) else none)=some p:=e
      split at e
      · rename_i h0
        cases e
        obtain ⟨t,hr2⟩:=y.int_inv;refine Eq.symm hr2▸?_
        obtain rfl:=x.none_inv
        refine ⟨_,_,.none,.int k t,fun vs _=>?_⟩
        have:=slicePick_upto' vs.toArray k.toNat
        rwa [Int.toNat_of_nonneg h0] at this
      · exact Aa e
    | _=>exact Aa e
  | _=>exact Aa e
noncomputable def Gs (o vl vu:Value) (Q:Value -> Shared -> Prop) (s₃:Shared):Prop :=
  ∃ l items lo hi,o=.ref l /\ s₃.heap.IsList l items /\ items.size <= sizeLine /\ IsPart vl lo /\ IsPart vu hi /\
    Q (.ref (s₃.heap.objs.size+1)) { s₃ with heap:=(s₃.heap.push { cls:=.type "slice",data:=.fields #[vl,vu,.none] }).push { cls:=.type "list",data:=.seq (slicePick items lo hi none) } }
theorem Gs.mono {o vl vu:Value} {Q Q':Value -> Shared -> Prop} {s₃:Shared} (h:Gs o vl vu Q s₃) (k:∀ a s,Q a s -> Q' a s):Gs o vl vu Q' s₃:=by
  refine Ah fun G kG=>?_
  refine ex4 h fun l items lo hi zz=>Kp zz fun h1 h2 h3 h4 h5 h6=>?_
  refine kG ?_
  exact ⟨l,items,lo,hi,h1,h2,h3,h4,h5,k _ _ h6⟩
theorem Ss (R:Rel cx H ρ s) {a:Val} {v:Value} {xs:List Val} (x:VR cx ρ s.heap a v) (h:B3 a H=some xs) (ht:Ab0 a=false):∃ p vs n,v=.ref p /\ s.heap.get? p=some (A8 vs n) /\ VRs cx ρ s.heap xs vs /\ xs.length <= sizeLine:=by
  cases a with
  | loc i =>
    refine ex1 x.loc_inv fun p zz=>Ac zz fun hp hr0=>?_;refine Eq.symm hr0▸?_
    refine Ah fun G kG=>?_
    refine ex2 (R.listAt (Gg h) hp) fun vs n zz=>By zz fun _ g r z=>?_
    refine kG ?_
    exact ⟨p.1,vs,n,rfl,g,r,z⟩
  | script ms =>
    cases h
    cases x with
    | script e z r=>exact ⟨_,_,_,rfl,R.base _ _ e,r,by rw [List.length_map];exact z⟩
  | tup ms=>cases ht
  | _=>exact Aa h
theorem Adq {x:Str} {t:Tok} {a:Addr} {l u:Option (Int × Tok)} {Q E:Value -> Shared -> Prop} (hs:s.heap.IsSlice a l u none) (hsz:x.length <= sizeLine) (h:∀ t' k,Q (.str (Txt.slice x (l.map (·.1)) (u.map (·.1))) t') { s with toks:=k }):wpAny (model cx.prog cx.w) A (getItem (.str x t) (.ref a)) Q E s :=
  wpAny_getItem_str_slice hs rfl (post_val_or_str ⟨Nat.le_trans (Txt.slice_le x _ _) hsz,h⟩)
noncomputable def Mg (o vl vu:Value) (Q:Value -> Shared -> Prop) (s₃:Shared):Prop :=
  ∃ x t l u,o=.str x t /\ vl=partValue l /\ vu=partValue u /\ x.length <= sizeLine /\ ∀ t' k,Q (.str (Txt.slice x (l.map (·.1)) (u.map (·.1))) t') { s₃ with heap:=s₃.heap.push { cls:=.type "slice",data:=.fields #[vl,vu,.none] },toks:=k }
theorem Mg.mono {o vl vu:Value} {Q Q':Value -> Shared -> Prop} {s₃:Shared} (h:Mg o vl vu Q s₃) (k:∀ a s,Q a s -> Q' a s):Mg o vl vu Q' s₃:=by
  refine Ah fun G kG=>?_
  refine ex4 h fun x t l u zz=>Fe zz fun h1 h2 h3 h4 h5=>?_
  refine kG ?_
  exact ⟨x,t,l,u,h1,h2,h3,h4,fun t' j=>k _ _ (h5 t' j)⟩
noncomputable def Eh (o vl vu:Value) (Q:Value -> Shared -> Prop) (s₃:Shared):Prop:=Gs o vl vu Q s₃ \/ Mg o vl vu Q s₃
theorem Eh.mono {o vl vu:Value} {Q Q':Value -> Shared -> Prop} {s₃:Shared} (h:Eh o vl vu Q s₃) (k:∀ a s,Q a s -> Q' a s):Eh o vl vu Q' s₃:=h.imp (·.mono k) (·.mono k)
theorem Le {h:Heap} {a:Val} {v:Value} {b:Option Int} (e:Fx a=some b) (x:VR cx ρ h a v):∃ l:Option (Int × Tok),v=partValue l /\ l.map (·.1)=b:=by
  cases a with
  | none=>cases e;cases x;exact ⟨none,rfl,rfl⟩
  | int i=>cases e;obtain ⟨t,rfl⟩:=x.int_inv;exact ⟨some (i,t),rfl,rfl⟩
  | _=>exact Aa e
theorem N1 {value:Expr} {lower upper:Option Expr} {p pos:Pos} {Q E:Value -> Shared -> Prop}
    (h:wpAny (model cx.prog cx.w) A (eval value env) (fun o s₁=>wpAny (model cx.prog cx.w) A (evalPart lower env) (fun vl s₂=>wpAny (model cx.prog cx.w) A (evalPart upper env) (fun vu s₃=>Eh o vl vu Q s₃) E s₂) E s₁) E s) :
    wpAny (model cx.prog cx.w) A (eval (.Subscript value (.Slice lower upper none p) pos) env) Q E s:=by
  refine wpAny_bind (wpAny_mono h (fun o s₁ h₁=>wpAny_bind (wpAny_holding (wpAny_Slice (wpAny_mono h₁ (fun vl s₂ h₂=>wpAny_mono h₂ (fun vu s₃ h₃=>?_) fun _ _ x=>x) fun _ _ x=>x)))) fun _ _ x=>x)
  rcases h₃ with h₃ | h₃
  · refine Ah fun G kG=>?_
    refine ex4 h₃ fun l items lo hi zz=>Kp zz fun zr4 hl hsz pl pu hQ=>?_;subst zr4
    refine kG ?_
    refine wpAny_pure (wpAny_bind (wpAny_standAt ?_))
    have ty:=(hl.push { cls:=.type "slice",data:=.fields #[vl,vu,.none] }).typeIs (s:={ s₃ with heap:=s₃.heap.push { cls:=.type "slice",data:=.fields #[vl,vu,.none] } })
    have get:wpAny (model cx.prog cx.w) A (getItem (.ref l) (.ref s₃.heap.objs.size)) Q E { s₃ with heap:=s₃.heap.push { cls:=.type "slice",data:=.fields #[vl,vu,.none] } }:=by
      refine wpAny_getItem_list_slice (hl.push _) (Heap.IsSliceOf.new ..) pl pu .none (by simp) ?_ hsz
      rw [Heap.size_push];exact hQ
    have fin:∀ i,wpAny (model cx.prog cx.w) A (getItem (.ref l) i) Q E _ -> wpAny (model cx.prog cx.w) A (operate [i,.ref l] (getItem (.ref l) i)) (fun r s₃=>wpAny (model cx.prog cx.w) A (letTemporaryGo value (.ref l) r>>=fun _=>pure r) Q E s₃) E { s₃ with heap:=s₃.heap.push { cls:=.type "slice",data:=.fields #[vl,vu,.none] } } :=
      fun i g=>wpAny_operating (wpAny_mono g (fun r s₃ h₃=>wpAny_bind (wpAny_letTemporaryGo (wpAny_pure h₃))) fun _ _ x=>x)
    refine wpAny_bind ?_
    exact wpAny_bind (wpAny_specialOf ty list_getitem_lookup (wpAny_pure (wpAny_bind (fin _ get))))
  · refine Ah fun G kG=>?_
    refine ex4 h₃ fun x t l u zz=>Fe zz fun zr4 zr5 zr6 hsz q=>?_;subst zr4;subst zr5;subst zr6
    refine kG ?_
    refine wpAny_pure (wpAny_bind (wpAny_standAt ?_))
    have get:wpAny (model cx.prog cx.w) A (getItem (.str x t) (.ref s₃.heap.objs.size)) Q E { s₃ with heap:=s₃.heap.push { cls:=.type "slice",data:=.fields #[partValue l,partValue u,.none] } }:=Adq ⟨_,Heap.get?_push_size _ rfl,rfl,rfl⟩ hsz q
    have fin:∀ i,wpAny (model cx.prog cx.w) A (getItem (.str x t) i) Q E _ -> wpAny (model cx.prog cx.w) A (operate [i,.str x t] (getItem (.str x t) i)) (fun r s₃=>wpAny (model cx.prog cx.w) A (letTemporaryGo value (.str x t) r>>=fun _=>pure r) Q E s₃) E { s₃ with heap:=s₃.heap.push { cls:=.type "slice",data:=.fields #[partValue l,partValue u,.none] } } :=
      fun i g=>wpAny_operating (wpAny_mono g (fun r s₃ h₃=>wpAny_bind (wpAny_letTemporaryGo (wpAny_pure h₃))) fun _ _ x=>x)
    refine wpAny_bind ?_
    exact wpAny_bind (wpAny_specialOf (typeIs_str _ _ _) F.slot_str_getitem.lookup (wpAny_pure (wpAny_bind (fin _ get))))
set_option tactic.hygienic true in
theorem Vd {a:ME} {lo hi:MEo} {x:Expr} {p pos:Pos} {lw up:Option Expr} (ha:EOk cx A P Φ env Γ a x) (hl:Sim cx A P (evalPart lw env) (evalO cx.T Φ lo Γ) (Amb.vr cx)) (hu:Sim cx A P (evalPart up env) (evalO cx.T Φ hi Γ) (Amb.vr cx)) :
    EOk cx A P Φ env Γ (.slice a lo hi) (.Subscript x (.Slice lw up none p) pos):=by
  refine EOk.of ?_ rfl
  intro H ρ s R p0
  refine Ay.bindK (K':=fun Q E s=>wpAny (model cx.prog cx.w) A (eval (.Subscript x (.Slice lw up none p) pos) env) Q E s)
    (K:=fun o Q E s=>wpAny (model cx.prog cx.w) A (evalPart lw env) (fun vl s₂=>wpAny (model cx.prog cx.w) A (evalPart up env) (fun vu s₃=>Eh o vl vu Q s₃) E s₂) E s) (ha.val H ρ s R p0) ?_ ?_ (fun Q E h=>N1 h)
  · intro b ov H1 ρ1 s1 _ F1 R1 vr
    refine Ay.bindK (K':=fun Q E s=>wpAny (model cx.prog cx.w) A (evalPart lw env) (fun vl s₂=>wpAny (model cx.prog cx.w) A (evalPart up env) (fun vu s₃=>Eh ov vl vu Q s₃) E s₂) E s)
      (K:=fun vl Q E s=>wpAny (model cx.prog cx.w) A (evalPart up env) (fun vu s₃=>Eh ov vl vu Q s₃) E s) (hl H1 ρ1 s1 R1 (P.st _ _ _ _ p0 F1)) ?_ ?_ (fun Q E h=>h)
    · intro b2 vl H2 ρ2 s2 _ F2 R2 vr2
      refine Ay.bindK (K':=fun Q E s=>wpAny (model cx.prog cx.w) A (evalPart up env) (fun vu s₃=>Eh ov vl vu Q s₃) E s)
        (K:=fun vu Q E s₃=>Eh ov vl vu Q s₃) (hu H2 ρ2 s2 R2 (P.st _ _ _ _ (P.st _ _ _ _ p0 F1) F2)) ?_ ?_ (fun Q E h=>h)
      · intro b3 vu H3 ρ3 s3 _ F3 R3 vr3
        have v1:VR cx ρ3 s3.heap b ov:=VR.step F3.step (VR.step F2.step vr)
        have v2:VR cx ρ3 s3.heap b2 vl:=VR.step F3.step vr2
        have v3:VR cx ρ3 s3.heap b3 vu:=vr3
        show E3 cx (I2 b b2 b3 H3) _ _ ρ3 s3
        unfold I2
        split
        · rename_i xs hx
          split
          · rename_i q hq
            by_cases ht:Ab0 b=true
            · rw [if_pos ht];trivial
            · rw [if_neg ht]
              refine Ah fun G kG=>?_
              refine ex3 (Ss R3 v1 hx (by simpa using ht)) fun a vs n zz=>By zz fun zr3 g r z=>?_;subst zr3
              refine ex2 (Vc hq v2 v3) fun pa pb zz=>As zz fun q1 q2 q3=>?_
              refine kG ?_
              refine .inl ⟨a,vs.toArray,pa,pb,rfl,⟨_,g,rfl,n,rfl⟩,by simp only [List.size_toArray];rw [<- r.length];exact z,q1,q2,?_⟩
              rw [q3 vs r.length.symm]
              have F4:Full ρ3 s3.heap ρ3 (s3.heap.push { cls:=.type "slice",data:=.fields #[vl,vu,.none] }):=Full.push _ _ _
              have R4:=R3.push { cls:=.type "slice",data:=.fields #[vl,vu,.none] } s3.toks
              have:=R4.newList (s:={ s3 with heap:=s3.heap.push { cls:=.type "slice",data:=.fields #[vl,vu,.none] } }) s3.toks ((VRs.cut r q).step F4.step) (Nat.le_trans (cut_le _ _) z)
              rw [Heap.size_push] at this
              refine Ah fun G kG=>?_
              refine ex1 this fun ρ' zz=>As zz fun F' R' vr'=>?_
              refine kG ?_
              exact ⟨ρ',F4.trans F',R',vr'⟩
          · trivial
        · cases e:Qn b b2 b3 with
          | none=>trivial
          | some r =>
            refine Ah fun G kG=>?_
            refine ex1 (Option.bind_eq_some_iff.mp e) fun x zz=>Ac zz fun e1 e0=>?_
            refine ex1 (Option.bind_eq_some_iff.mp e0) fun l zz=>Ac zz fun e2 e4=>?_
            refine ex1 (Option.map_eq_some_iff.mp e4) fun u zz=>Ac zz fun e3 e5=>?_
            refine ex1 (Le e2 v2) fun pl zz=>Ac zz fun q1 q2=>?_
            refine ex1 (Le e3 v3) fun pu zz=>Ac zz fun q3 q4=>?_
            refine kG ?_
            cases Aau e1
            cases v1 with
            | str _ t z =>
              refine .inr ⟨x,t,pl,pu,rfl,q1,q3,z,fun t' k=>?_⟩
              have F4:Full ρ3 s3.heap ρ3 (s3.heap.push { cls:=.type "slice",data:=.fields #[vl,vu,.none] }):=Full.push _ _ _
              exact ⟨ρ3,F4,R3.push { cls:=.type "slice",data:=.fields #[vl,vu,.none] } k,by rw [q2,q4,<- e5];exact .str _ _ (Nat.le_trans (Txt.slice_le x _ _) z)⟩
      · exact fun vu Q E Q' E' s h k1 _=>h.mono k1
    · exact fun vl Q E Q' E' s h k1 k2=>wpAny_mono h (fun vu s₃ h'=>h'.mono k1) k2
  · exact fun ov Q E Q' E' s h k1 k2=>wpAny_mono h (fun vl s₂ h'=>wpAny_mono h' (fun vu s₃ h''=>h''.mono k1) k2) k2
end
section
variable {cx:Cx} {N:Names} {A:Around} {Φ:Funs} {l:List Env} {d:Nat}
structure Ground (cx:Cx) (N:Names) (A:Around) (Φ:Funs) (l:List Env) (d:Nat):Prop where
  base:Base cx N
  room:Room A d
  frames:A.frames=some l
  funs:Gl cx Φ d
  defs:∀ (f:Nat) (a:Addr),cx.fns[f]?=some a -> ∃ g,cx.T.funs[f]?=some g
theorem Ground.u (G:Ground cx N A Φ l d):A.units+100 < cLine:=by have:=G.room.units;exact Aoi this
noncomputable def Ei (ns:List (Option Str)):Prop:=∀ (i j:Nat) (y:Str),ns[i]?=some (some y) -> ns[j]?=some (some y) -> i=j
theorem Agv {m:BM} {ms:List Val} {xs:List Expr} (h1:(Gh m).2=xs.length) (h2:ms.length=xs.length):ms.length=(Gh m).2:=by rw [h1,h2]
theorem Agw (hu:A.units+100 < cLine) (m:BM) (b:Val) (v:Value) (ms:List Val) (vs:List Value) (hl:ms.length=(Gh m).2):Sim cx A ((Amb.vr cx b v).and (Amb.vrs cx ms vs)) (call (.builtin (Xo m).2) (v :: vs)) (bmV m b ms) (Amb.vr cx):=by
  cases m with
  | append=>exact Ub b v ms vs hl
  | clear=>exact Yh b v ms vs hl
  | dpop=>exact Acn hu b v ms vs hl
  | join=>exact Acj b v ms vs hl
  | split=>exact Ye b v ms vs hl
set_option maxHeartbeats 4000000 in
mutual
theorem eok (G:Ground cx N A Φ l d):∀ (m:ME) (e:Expr) (env:Env) (sc:Scope) (ns:List (Option Str)) (Γ:Env'),ck N sc ns m e=true -> Ei ns -> Γ.length=ns.length -> EOk cx A ((Amb.env cx env sc ns Γ).and (Amb.frames cx l)) Φ env Γ m e
  | .none,e,env,sc,ns,Γ,h,_,_=>by
    refine ex2 (Yj h) fun k pos hr0=>?_;refine Eq.symm hr0▸?_
    refine EOk.of (fun H ρ s R p=>?_) rfl
    exact Aq R fun Q E k=>wpAny_Constant_none (k _ s.toks .none)
  | .bool b,e,env,sc,ns,Γ,h,_,_=>by
    refine ex2 (Yk h) fun k pos zr2=>?_;subst zr2
    refine EOk.of (fun H ρ s R p=>?_) rfl
    exact Aq R fun Q E k=>wpAny_Constant_bool (k _ s.toks (.bool b))
  | .int i,e,env,sc,ns,Γ,h,_,_=>by
    refine ex2 (Aco h) fun k pos zr2=>?_;subst zr2
    refine EOk.of (fun H ρ s R p=>?_) rfl
    exact Aq R fun Q E k=>wpAny_Constant_int (k _ _ (.int _ _))
  | .str v,e,env,sc,ns,Γ,h,_,_=>by
    refine ex2 (Acp h) fun k pos zz=>Ac zz fun hr3 z=>?_;refine Eq.symm hr3▸?_
    refine EOk.of (fun H ρ s R p=>?_) rfl
    exact Aq R fun Q E k=>wpAny_Constant_str (k _ _ (.str _ _ (by rw [sizeLine_eq];exact o30 z)))
  | .glob k,e,env,sc,ns,Γ,h,_,_=>by
    refine ex2 (Yl h) fun x pos zz=>As zz fun zr2 h1 h2=>?_;subst zr2
    exact EOk.of (X3 G.base h1 h2 Φ).and1 rfl
  | .var i,e,env,sc,ns,Γ,h,_,_=>by
    refine ex2 (Acq h) fun x pos zz=>Ac zz fun zr2 h1=>?_;subst zr2
    exact EOk.of (Acc h1 Φ).and1 rfl
  | .bin op a b,e,env,sc,ns,Γ,h,ha,hΓ=>by
    refine ex4 (Acr h) fun x o y pos zz=>By zz fun hr6 h1 h2 h3=>?_;refine Eq.symm hr6▸?_
    exact Adf h1 (eok G a x env sc ns Γ h2 ha hΓ) (eok G b y env sc ns Γ h3 ha hΓ)
  | .neg a,e,env,sc,ns,Γ,h,ha,hΓ=>by
    refine ex2 (Acs h) fun x pos zz=>Ac zz fun zr2 h1=>?_;subst zr2
    exact Adg (eok G a x env sc ns Γ h1 ha hΓ)
  | .not a,e,env,sc,ns,Γ,h,ha,hΓ=>by
    refine ex2 (Act h) fun x pos zz=>Ac zz fun zr2 h1=>?_;subst zr2
    exact Adh (eok G a x env sc ns Γ h1 ha hΓ)
  | .and a b,e,env,sc,ns,Γ,h,ha,hΓ=>by
    refine ex4 (Acu h) fun x y rest pos zz=>As zz fun zr4 h1 h2=>?_;subst zr4
    refine Adj (eok G a x env sc ns Γ h1 ha hΓ) ?_
    rcases h2 with ⟨rfl,h2⟩ | h2
    · exact Xq.one (eok G b y env sc ns Γ h2 ha hΓ)
    · exact Xq.more (eok G b _ env sc ns Γ h2 ha hΓ)
  | .or a b,e,env,sc,ns,Γ,h,ha,hΓ=>by
    refine ex4 (Agg h) fun x y rest pos zz=>As zz fun zr4 h1 h2=>?_;subst zr4
    refine Ags (eok G a x env sc ns Γ h1 ha hΓ) ?_
    rcases h2 with ⟨rfl,h2⟩ | h2
    · exact Xq.one (eok G b y env sc ns Γ h2 ha hΓ)
    · exact Xq.more (eok G b _ env sc ns Γ h2 ha hΓ)
  | .cmp op a b,e,env,sc,ns,Γ,h,ha,hΓ=>by
    refine ex3 (Acv h) fun x y pos zz=>By zz fun hr11 h1 h2 h3=>?_;refine Eq.symm hr11▸?_
    exact Adk G.u h3 (eok G a x env sc ns Γ h1 ha hΓ) (eok G b y env sc ns Γ h2 ha hΓ)
  | .cmp2 op1 op2 a b c,e,env,sc,ns,Γ,h,ha,hΓ=>by
    refine ex4 (Ym h) fun x y z pos zz=>Fe zz fun hr12 h1 h2 h3 h4=>?_;refine Eq.symm hr12▸?_
    exact Y2 G.u h4 (eok G a x env sc ns Γ h1 ha hΓ) (eok G b y env sc ns Γ h2 ha hΓ) (eok G c z env sc ns Γ h3 ha hΓ)
  | .sub a i,e,env,sc,ns,Γ,h,ha,hΓ=>by
    refine ex3 (Acw h) fun x y pos zz=>As zz fun hr13 h1 h2=>?_;refine Eq.symm hr13▸?_
    exact Adm G.u (eok G a x env sc ns Γ h1 ha hΓ) (eok G i y env sc ns Γ h2 ha hΓ)
  | .slice a lo hi,e,env,sc,ns,Γ,h,ha,hΓ=>by
    refine ex5 (Uc h) fun v lw up p pos zz=>By zz fun zr5 h1 h2 h3=>?_;subst zr5
    exact Vd (eok G a v env sc ns Γ h1 ha hΓ) (eopt G lo lw env sc ns Γ h2 ha hΓ) (eopt G hi up env sc ns Γ h3 ha hΓ)
  | .tup es,e,env,sc,ns,Γ,h,ha,hΓ=>by
    refine ex3 (Acx h) fun xs k pos zz=>As zz fun hr15 h1 h2=>?_;refine Eq.symm hr15▸?_
    exact EOk.of (Ac0 (Cm h1) h2 (fun _ _ _ e=>Cr h1 e) (eoks G es xs env sc ns Γ h1 ha hΓ)) rfl
  | .list es,e,env,sc,ns,Γ,h,ha,hΓ=>by
    refine ex2 (Yn h) fun xs pos zz=>As zz fun zr2 h1 h2=>?_;subst zr2
    exact EOk.of (Yt (Cm h1) h2 (fun _ _ _ e=>Cr h1 e) (eoks G es xs env sc ns Γ h1 ha hΓ)) rfl
  | .dict,e,env,sc,ns,Γ,h,ha,hΓ=>by
    obtain ⟨pos,hr17⟩:=Yo h;refine Eq.symm hr17▸?_
    exact EOk.of Yi rfl
  | .attr a n,e,env,sc,ns,Γ,h,ha,hΓ=>by
    refine ex3 (Yp h) fun x y pos zz=>By zz fun zr3 h1 h2 h3=>?_;subst zr3
    exact Y9 G.base.cls h2 h3 (eok G a x env sc ns Γ h1 ha hΓ)
  | .call f es,e,env,sc,ns,Γ,h,ha,hΓ=>by
    refine ex4 (Yq h) fun x np xs pos zz=>Fe zz fun zr4 h1 h2 h3 h4=>?_;subst zr4
    refine EOk.of ?_ rfl
    refine ex2 G.base.ns fun mg mb zz=>By zz fun ng nb q _=>?_
    refine ex1 (q x f (C8 h2)) fun a zz=>Ac zz fun ha' _=>?_
    exact Ug G.base (fun a args vals h=>G.funs f a args vals A l h G.room.toF G.frames) h1 h2 (G.defs f a ha') h3 (eoks G es xs env sc ns Γ h3 ha hΓ)
  | .new c es,e,env,sc,ns,Γ,h,ha,hΓ=>by
    refine ex4 (Acy h) fun x np xs pos zz=>Fe zz fun zr4 h1 h2 h3 h4=>?_;subst zr4
    exact Adp G.base G.funs G.room G.frames h1 h2 h3 (eoks G es xs env sc ns Γ h3 ha hΓ)
  | .umeth a m es,e,env,sc,ns,Γ,h,ha,hΓ=>by
    refine ex5 (Ud h) fun o y apos xs pos zz=>R6 zz fun hr21 h1 h2 h3 h4 h5 h6=>?_;refine Eq.symm hr21▸?_
    exact Va G.base.cls G.funs G.room G.frames h2 h3 h4 h5 h6 (eok G a o env sc ns Γ h1 ha hΓ) (eoks G es xs env sc ns Γ h3 ha hΓ)
  | .bf f es,e,env,sc,ns,Γ,h,ha,hΓ=>by
    refine ex4 (Agh h) fun x np xs pos zz=>Fe zz fun zr4 h1 h2 h3 h4=>?_;subst zr4
    exact Agu G.base G.room.hh G.u h1 h2 h3 h4 (eoks G es xs env sc ns Γ h4 ha hΓ)
  | .bm a m es,e,env,sc,ns,Γ,h,ha,hΓ=>by
    refine ex5 (Agi h) fun o y apos xs pos zz=>R6 zz fun zr5 h1 zr7 h3 h4 h5 h6=>?_;subst zr5;subst zr7
    refine EOk.of ?_ rfl
    exact Age h5 (Cm h4) (by rw [<- h3];cases m <;> decide) (fun e=>Fg (e▸h4)) h6 (eok G a o env sc ns Γ h1 ha hΓ).val (eoks G es xs env sc ns Γ h4 ha hΓ)
      (fun b v ms vs hl=>Agw G.u m b v ms vs (Agv h3 hl)) (fun _ _ _ e=>Cr h4 e)
  | .isinst a t,e,env,sc,ns,Γ,h,ha,hΓ=>by
    refine ex6 (Sf h) fun f np x y yp pos zz=>Kp zz fun hr23 h1 h2 h3 h4 h5=>?_;refine Eq.symm hr23▸?_
    have z:=eok G a x env sc ns Γ h4 ha hΓ
    cases t with
    | cls c=>exact Y5 G.base h1 h2 h3 h5 (B0 h4) z
    | int=>exact Ji G.base (fun c=>by intro q;cases q) h1 h2 h3 (of_decide_eq_true h5) (B0 h4) z
    | bool=>exact Ji G.base (fun c=>by intro q;cases q) h1 h2 h3 (of_decide_eq_true h5) (B0 h4) z
    | str=>exact Ji G.base (fun c=>by intro q;cases q) h1 h2 h3 (of_decide_eq_true h5) (B0 h4) z
    | tuple=>exact Ji G.base (fun c=>by intro q;cases q) h1 h2 h3 (of_decide_eq_true h5) (B0 h4) z
    | list=>exact Ji G.base (fun c=>by intro q;cases q) h1 h2 h3 (of_decide_eq_true h5) (B0 h4) z
  | .sset a,e,env,sc,ns,Γ,h,ha,hΓ=>by
    refine ex7 (Yr h) fun f np g gp x ip pos zz=>Kp zz fun hr25 h1 h2 h3 h4 h5=>?_;refine Eq.symm hr25▸?_
    exact Y4 G.base G.room.hh G.u h1 h2 h3 h4 (B0 h5) (eok G a x env sc ns Γ h5 ha hΓ)
  | .comp elt it cond,e,env,sc,ns,Γ,h,ha,hΓ=>by
    refine ex7 (Qy h) fun el x px i ifs csc pos zz=>Kp zz fun hr24 h1 h2 h3 h4 h5=>?_;refine Eq.symm hr24▸?_
    exact Y8 G.room.hh h2 h3 ha hΓ ⟨fun cenv Γ' hΓ'=>econd G cond ifs cenv csc _ Γ' h5 (E8 ha (Bm h3).2.1) hΓ',fun cenv Γ' hΓ'=>(eok G elt el cenv csc _ Γ' h4 (E8 ha (Bm h3).2.1) hΓ').val⟩ (eok G it i env sc ns Γ h1 ha hΓ)
theorem eopt (G:Ground cx N A Φ l d):∀ (o:MEo) (x:Option Expr) (env:Env) (sc:Scope) (ns:List (Option Str)) (Γ:Env'),ckO N sc ns o x=true -> Ei ns -> Γ.length=ns.length -> Sim cx A ((Amb.env cx env sc ns Γ).and (Amb.frames cx l)) (evalPart x env) (evalO cx.T Φ o Γ) (Amb.vr cx)
  | .none,none,env,sc,ns,Γ,_,_,_=>by
    intro H ρ s R p
    exact wpAny_pure ⟨ρ,Full.refl _ _,R,.none⟩
  | .some e,some x,env,sc,ns,Γ,h,ha,hΓ=>by
    exact (eok G e x env sc ns Γ h ha hΓ).val
  | .none,some _,env,sc,ns,Γ,h,ha,hΓ=>by cases (show false=true from h)
  | .some _,none,env,sc,ns,Γ,h,ha,hΓ=>by cases (show false=true from h)
theorem econd (G:Ground cx N A Φ l d):∀ (cond:MEo) (ifs:List Expr) (cenv:Env) (csc:Scope) (ns':List (Option Str)) (Γ':Env'),ckC N csc ns' cond ifs=true -> Ei ns' -> Γ'.length=ns'.length ->
    Sim cx A ((Amb.env cx cenv csc ns' Γ').and (Amb.frames cx l)) (forIn ifs true fun c r=>if r=true then do let ok <- isTrue c cenv (eval c cenv);pure (ForInStep.yield ok) else pure (ForInStep.yield r)) (evalC cx.T Φ cond Γ') BV
  | .none,[],cenv,csc,ns',Γ',h2,ha,hΓ=>by
    intro H ρ s R p
    exact wpAny_tests_nil ⟨ρ,Full.refl _ _,R,rfl⟩
  | .some c,[i],cenv,csc,ns',Γ',h2,ha,hΓ=>by
    exact (eok G c i cenv csc ns' Γ' h2 ha hΓ).tru.pre fun Q E s h=>wpAny_tests_one h
  | .none,_ :: _,cenv,csc,ns',Γ',h2,ha,hΓ=>by cases (show false=true from h2)
  | .some _,[],cenv,csc,ns',Γ',h2,ha,hΓ=>by cases (show false=true from h2)
  | .some _,_ :: _ :: _,cenv,csc,ns',Γ',h2,ha,hΓ=>by cases (show false=true from h2)
theorem eoks (G:Ground cx N A Φ l d):∀ (ms:MEs) (xs:List Expr) (env:Env) (sc:Scope) (ns:List (Option Str)) (Γ:Env'),ckEs N sc ns ms xs=true -> Ei ns -> Γ.length=ns.length ->
    Sim cx A ((Amb.env cx env sc ns Γ).and (Amb.frames cx l)) (spliced (xs.map fun e=>(false,eval e env))) (evalEs cx.T Φ ms Γ) (Amb.vrs cx)
  | .nil,[],env,sc,ns,Γ,h,ha,hΓ=>Acz
  | .nil,_ :: _,env,sc,ns,Γ,h,ha,hΓ=>by cases (show false=true from h)
  | .cons _ _,[],env,sc,ns,Γ,h,ha,hΓ=>by cases (show false=true from h)
  | .cons m ms,x :: xs,env,sc,ns,Γ,h,ha,hΓ=>by
    have h:=And.intro (an1 h) (an2 h)
    exact Ys (eok G m x env sc ns Γ h.1 ha hΓ).val (eoks G ms xs env sc ns Γ h.2 ha hΓ)
end
end
section
variable {cx:Cx} {N:Names} {A:Around} {Φ:Funs} {l:List Env} {d:Nat} {env:Env} {sc:Scope} {ns:List (Option Str)} {Γ:Env'} {H:Hp} {ρ ρ':Rho} {s:Shared}
noncomputable def Ce (cx:Cx) (env:Env) (sc:Scope) (ns:List (Option Str)) (r:ResS) (T:(Flow -> Shared -> Prop) -> (Value -> Shared -> Prop) -> Shared -> Prop) (ρ:Rho) (s:Shared):Prop :=
  match r with
  | .bad=>True
  | .next Γ' H'=>T (fun f s'=>f=.next /\ ∃ ρ',FullS env ρ s.heap ρ' s'.heap /\ Rel cx H' ρ' s' /\ EnvOk cx env sc ns Γ' ρ' s'.heap) (fun _ _=>False) s
  | .ret v H'=>T (fun f s'=>∃ v' ρ',f=.ret v' /\ FullS env ρ s.heap ρ' s'.heap /\ Rel cx H' ρ' s' /\ (VR cx ρ' s'.heap v v' /\ EnvSt cx env sc ρ' s'.heap)) (fun _ _=>False) s
  | .exc c Γ' H'=>T (fun _ _=>False) (fun e s'=>∃ ρ',FullS env ρ s.heap ρ' s'.heap /\ Rel cx H' ρ' s' /\ EnvOk cx env sc ns Γ' ρ' s'.heap /\ Flying cx ρ' s.heap s'.heap c e) s
theorem Ce.of {r:ResS} {t:Sem Flow} (x:Bx cx A env sc ns r t ρ s):Ce cx env sc ns r (fun Q E s=>wpAny (model cx.prog cx.w) A t Q E s) ρ s:=by cases r <;> exact x
theorem Ce.to {r:ResS} {t:Sem Flow} (x:Ce cx env sc ns r (fun Q E s=>wpAny (model cx.prog cx.w) A t Q E s) ρ s):Bx cx A env sc ns r t ρ s:=by cases r <;> exact x
theorem Ce.mono {r:ResS} {T T':(Flow -> Shared -> Prop) -> (Value -> Shared -> Prop) -> Shared -> Prop} (x:Ce cx env sc ns r T ρ s) (k:∀ Q E,T Q E s -> T' Q E s):Ce cx env sc ns r T' ρ s:=by cases r <;> first | trivial | exact k _ _ x
theorem Bx.bindK {α β:Type} {t:Sem α} {m:M β} {V:β -> α -> Amb} {g:β -> Hp -> ResS} {K:α -> (Flow -> Shared -> Prop) -> (Value -> Shared -> Prop) -> Shared -> Prop} {K':(Flow -> Shared -> Prop) -> (Value -> Shared -> Prop) -> Shared -> Prop} (e0:EnvOk cx env sc ns Γ ρ s.heap) (x:Ay cx A (m H) t V ρ s)
    (y:∀ b a H' ρ' s',m H=.ok b H' -> Full ρ s.heap ρ' s'.heap -> Rel cx H' ρ' s' -> EnvOk cx env sc ns Γ ρ' s'.heap -> (V b a).P ρ' s'.heap -> Ce cx env sc ns (g b H') (K a) ρ' s')
    (mk:∀ a,Sa (K a))
    (k:∀ Q E,wpAny (model cx.prog cx.w) A t (fun a s'=>K a Q E s') E s -> K' Q E s) :
    Ce cx env sc ns (Fr m Γ g H) K' ρ s:=by
  unfold Fr
  cases e:m H with
  | bad=>trivial
  | exc c H' =>
    rw [e] at x
    exact k _ _ (wpAny_mono x (fun _ _ q=>q.elim) fun ex s' ⟨ρ',F,R,fl⟩=>⟨ρ',F.toS,R,e0.full F,fl⟩)
  | ok b H' =>
    rw [e] at x
    show Ce cx env sc ns (g b H') K' ρ s
    cases e2:g b H' with
    | bad=>trivial
    | next Γ2 H2 =>
      refine k _ _ (wpAny_mono x (fun a s' ⟨ρ',F,R,v⟩=>?_) fun _ _ q=>q.elim)
      have z:=y b a H' ρ' s' e F R (e0.full F) v
      rw [e2] at z
      exact mk a _ _ _ _ _ z (fun f s'' ⟨h1,ρ'',F',R',e'⟩=>⟨h1,ρ'',F.toS.trans F',R',e'⟩) fun _ _ q=>q.elim
    | ret v2 H2 =>
      refine k _ _ (wpAny_mono x (fun a s' ⟨ρ',F,R,v⟩=>?_) fun _ _ q=>q.elim)
      have z:=y b a H' ρ' s' e F R (e0.full F) v
      rw [e2] at z
      exact mk a _ _ _ _ _ z (fun f s'' ⟨v',ρ'',h1,F',R',e'⟩=>⟨v',ρ'',h1,F.toS.trans F',R',e'⟩) fun _ _ q=>q.elim
    | exc c2 Γ2 H2 =>
      refine k _ _ (wpAny_mono x (fun a s' ⟨ρ',F,R,v⟩=>?_) fun _ _ q=>q.elim)
      have z:=y b a H' ρ' s' e F R (e0.full F) v
      rw [e2] at z
      exact mk a _ _ _ _ _ z (fun _ _ q=>q) fun ex s'' ⟨ρ'',F',R',e',fl⟩=>⟨ρ'',F.toS.trans F',R',e',fl.older F.live⟩
theorem Ce.look {β:Type} {f:Hp -> Option β} {g:β -> Hp -> ResS} {K:(Flow -> Shared -> Prop) -> (Value -> Shared -> Prop) -> Shared -> Prop} (y:∀ b,f H=some b -> Ce cx env sc ns (g b H) K ρ s):Ce cx env sc ns (Fr (M.look f) Γ g H) K ρ s:=by
  unfold Fr
  cases e:f H with
  | none=>rw [E6 e];trivial
  | some b=>rw [E5 e];exact y b e
theorem Bo.stmt {h h':Heap} (fr:Bo cx l ρ h) (F:FullS env ρ h ρ' h') (e0:EnvSt cx env sc ρ h) (e1:EnvSt cx env sc ρ' h'):Bo cx l ρ' h':=fun en he=>by
  refine Ah fun G kG=>?_
  refine Ac (fr en he) fun k zz=>ex2 zz fun L o zz=>Fe zz fun h1 h2 h3 h5 h6=>?_
  refine kG ?_
  by_cases q:L=env.locals
  · refine Ah fun G kG=>?_
    refine ex1 e1.loc fun m zz=>ex3 zz fun o' es ep zz=>As zz fun e' d _=>?_
    refine kG ?_
    rw [<- q] at e'
    exact ⟨k,L,o',h1,h2,e',⟨_,_,d⟩,by rw [q];exact e1.locN⟩
  · refine ex2 h5 fun es n hd=>?_
    refine ex1 (F.keep L o h3 h6 q (e0.notCell h3 fun v w=>by rw [hd] at w;cases w)) fun o' zz=>Ac zz fun e' u=>?_
    exact ⟨k,L,o',h1,h2,e',⟨es,n,by rw [u.data];exact hd⟩,F.grow.not h6 h3⟩
theorem Zb {st:Stmt} {rest:List Stmt} {m:Env' -> Hp -> ResS} {g:Env' -> Hp -> ResS} (e0:EnvOk cx env sc ns Γ ρ s.heap) (fr:Bo cx l ρ s.heap) (x:Bx cx A env sc ns (m Γ H) (exec st env) ρ s) (y:Kz cx A l env sc ns (execs rest env) g) :
    Bx cx A env sc ns (M8 (m Γ H) g) (execs (st :: rest) env) ρ s:=by
  cases e:m Γ H with
  | bad=>trivial
  | ret v H' =>
    rw [e] at x
    exact wpAny_execs_cons (wpAny_mono x (fun f s' q=>by obtain ⟨v',ρ',rfl,q⟩:=q;exact ⟨v',ρ',rfl,q⟩) fun _ _ q=>q)
  | exc c Γ' H' =>
    rw [e] at x
    exact wpAny_execs_cons (wpAny_mono x (fun f s' q=>q.elim) fun _ _ q=>q)
  | next Γ' H' =>
    rw [e] at x
    show Bx cx A env sc ns (g Γ' H') _ ρ s
    cases e2:g Γ' H' with
    | bad=>trivial
    | next Γ2 H2 =>
      refine wpAny_execs_cons (wpAny_mono x (fun f s' q=>?_) fun _ _ q=>q.elim)
      obtain ⟨rfl,ρ',F,R,e'⟩:=q
      have z:=y Γ' H' ρ' s' R e' (fr.stmt F e0.st e'.st)
      rw [e2] at z
      exact wpAny_mono z (fun f s'' ⟨h1,ρ'',F',R',e'⟩=>⟨h1,ρ'',F.trans F',R',e'⟩) fun _ _ q=>q.elim
    | ret v2 H2 =>
      refine wpAny_execs_cons (wpAny_mono x (fun f s' q=>?_) fun _ _ q=>q.elim)
      obtain ⟨rfl,ρ',F,R,e'⟩:=q
      have z:=y Γ' H' ρ' s' R e' (fr.stmt F e0.st e'.st)
      rw [e2] at z
      exact wpAny_mono z (fun f s'' ⟨v',ρ'',h1,F',R',e'⟩=>⟨v',ρ'',h1,F.trans F',R',e'⟩) fun _ _ q=>q.elim
    | exc c2 Γ2 H2 =>
      refine wpAny_execs_cons (wpAny_mono x (fun f s' q=>?_) fun _ _ q=>q.elim)
      obtain ⟨rfl,ρ',F,R,e'⟩:=q
      have z:=y Γ' H' ρ' s' R e' (fr.stmt F e0.st e'.st)
      rw [e2] at z
      exact wpAny_mono z (fun _ _ q=>q.elim) fun ex s'' ⟨ρ'',F',R',e',fl⟩=>⟨ρ'',F.trans F',R',e',fl.older F.live⟩
theorem Ve {i:Nat} {y:Str} {mv:Val} {v:Value} (ha:Ei ns) (R:Rel cx H ρ s) (e0:EnvOk cx env sc ns Γ ρ s.heap) (ho:Fq sc ns i y=true) (hv:VR cx ρ s.heap mv v) :
    Ce cx env sc ns (.next (Γ.set i (some mv)) H) (fun Q E s=>wpAny (model cx.prog cx.w) A (storeName env y v) (fun _=>Q .next) E s) ρ s :=
  D0 e0.len ha R e0 ho hv fun h' tk F' R' e' _=>⟨rfl,ρ,F',R',e'⟩
theorem Py {y:Str} {v:Value}:Sa (α:=Flow) fun Q E s=>wpAny (model cx.prog cx.w) A (storeName env y v) (fun _=>Q .next) E s:=fun _ _ _ _ _ h k1 k2=>wpAny_mono h (fun _ _=>k1 _ _) k2
end
section
variable {cx:Cx} {N:Names} {A:Around} {Φ:Funs} {l:List Env} {d:Nat} {env:Env} {sc:Scope} {ns:List (Option Str)} {Γ:Env'} {H:Hp} {ρ ρ':Rho} {s:Shared}
noncomputable def Agx (cx:Cx) (env:Env) (sc:Scope) (ns:List (Option Str)) (ρ:Rho) (h:Heap) (r:ResS) (Q:Flow -> Shared -> Prop) (E:Value -> Shared -> Prop):Prop :=
  match r with
  | .bad=>True
  | .next Γ' H'=>∀ s' ρ',FullS env ρ h ρ' s'.heap -> Rel cx H' ρ' s' -> EnvOk cx env sc ns Γ' ρ' s'.heap -> Q .next s'
  | .ret v H'=>∀ s' ρ' v',FullS env ρ h ρ' s'.heap -> Rel cx H' ρ' s' -> (VR cx ρ' s'.heap v v' /\ EnvSt cx env sc ρ' s'.heap) -> Q (.ret v') s'
  | .exc c Γ' H'=>∀ e s' ρ',FullS env ρ h ρ' s'.heap -> Rel cx H' ρ' s' -> EnvOk cx env sc ns Γ' ρ' s'.heap -> Flying cx ρ' h s'.heap c e -> E e s'
theorem Ce.ofPost {r:ResS} {T:(Flow -> Shared -> Prop) -> (Value -> Shared -> Prop) -> Shared -> Prop} (k:∀ Q E,r≠.bad -> Agx cx env sc ns ρ s.heap r Q E -> T Q E s):Ce cx env sc ns r T ρ s:=by
  cases r with
  | bad=>trivial
  | next Γ' H'=>exact k _ _ (fun q=>by cases q) fun s' ρ' F R e=>⟨rfl,ρ',F,R,e⟩
  | ret v H'=>exact k _ _ (fun q=>by cases q) fun s' ρ' v' F R e=>⟨v',ρ',rfl,F,R,e⟩
  | exc c Γ' H'=>exact k _ _ (fun q=>by cases q) fun e s' ρ' F R e' fl=>⟨ρ',F,R,e',fl⟩
theorem FullS.fresh {h h1 h2:Heap} {qs:List Addr} (F:FullS env ρ h ρ' h1) (hq:∀ q∈qs,h.get? q=none) (hs:∀ b o,b ∉ qs -> ¬ Aw ρ' b -> h1.get? b=some o -> h2.get? b=some o) (lv:Hr h1 h2):FullS env ρ h ρ' h2:=by
  refine ⟨F.grow,fun b o e n n1 n2=>?_,F.live.trans lv⟩
  refine ex1 (F.keep b o e n n1 n2) fun o' zz=>Ac zz fun e' u=>?_
  refine ⟨o',hs b o' (fun w=>?_) (F.grow.not n e) e',u⟩
  rw [hq b w] at e;exact Aa e
theorem EnvOk.priv {h h':Heap} {qs:List Addr} (x:EnvOk cx env sc ns Γ ρ h) (hs:∀ b o,b ∉ qs -> ¬ Aw ρ b -> h.get? b=some o -> h'.get? b=some o) (hq:∀ q∈qs,∃ o,h.get? q=some o /\ Fz o) (st:Step ρ h ρ h'):EnvOk cx env sc ns Γ ρ h':=by
  have nl:env.locals ∉ qs:=fun w=>by refine ex1 (hq _ w) fun o zz=>Ac zz fun e i=>?_;exact x.st.notLoc e i.notDict rfl
  have nc:∀ y c,env.cells.lookup y=some c -> c ∉ qs:=fun y c hc w=>by refine ex1 (hq _ w) fun o zz=>Ac zz fun e i=>?_;exact x.st.notCell e i.notCell y hc
  have kl:∀ o,h.get? env.locals=some o -> ∃ o',h'.get? env.locals=some o' /\ o'.data=o.data:=fun o e=>⟨o,hs _ o nl x.st.locN e,rfl⟩
  have kc:∀ y c,env.cells.lookup y=some c -> ∀ o,h.get? c=some o -> ∃ o',h'.get? c=some o' /\ o'.data=o.data:=fun y c hc o e=>⟨o,hs _ o (nc y c hc) (x.st.cells y c hc).2.1 e,rfl⟩
  obtain ⟨m,hm⟩:=x.st.loc
  refine ⟨⟨x.st.fn,x.st.glob,x.st.blt,x.st.kinds,⟨m,Ba hm kl⟩,x.st.locN,x.st.locB,fun y c hc=>?_,x.st.hasCell,x.st.apart⟩,x.len,fun i y mv hi hm=>?_⟩
  · refine As (x.st.cells y c hc) fun zn0 a b=>?_;obtain ⟨v,hv⟩:=zn0
    exact ⟨⟨v,Bc hv (kc y c hc)⟩,a,b⟩
  · refine ex1 (x.vals i y mv hi hm) fun v zz=>Ac zz fun hv r=>?_
    refine ⟨v,?_,r.step st⟩
    rcases hv with ⟨k,m,hm,e⟩ | ⟨k,c,hc,e⟩
    · exact .inl ⟨k,m,Ba hm kl,e⟩
    · exact .inr ⟨k,c,hc,Bc e (kc y c hc)⟩
structure Walk (cx:Cx) (A:Around) (it:Value) (target:Expr) (xs:List Val) (ck:Hp -> Bool) where
  Ok:Nat -> Rho -> Heap -> Prop
  priv:List Addr
  obj:∀ {i ρ h},Ok i ρ h -> ∀ q∈priv,(∃ o,h.get? q=some o /\ Fz o) /\ ¬ Aw ρ q
  step:∀ {i ρ h ρ' h'},Ok i ρ h -> Step ρ h ρ' h' -> (∀ q∈priv,(∀ o,h.get? q=some o -> h'.get? q=some o) /\ ¬ Aw ρ' q) -> Ok i ρ' h'
  item:∀ {i:Nat} {ρ:Rho} {H:Hp} {s:Shared} {m:Val} {Q:Value -> Shared -> Prop} {E E':Value -> Shared -> Prop} {QQ:Option Value -> Shared -> Prop},Rel cx H ρ s -> Ok i ρ s.heap -> ck H=true -> xs[i]?=some m -> (∀ q∈priv,cx.h₀.get? q=none) ->
    (∀ v s₁,wpAny (model cx.prog cx.w) A (letOwnedTupleGo target it v) (fun _ s₂=>Q v s₂) E' s₁ -> QQ (some v) s₁) ->
    (∀ v h' tk,Rel cx H ρ { s with heap:=h',toks:=tk } -> Step ρ s.heap ρ h' -> (∀ b o,b ∉ priv -> ¬ Aw ρ b -> s.heap.get? b=some o -> h'.get? b=some o) -> Hr s.heap h' -> VR cx ρ h' m v -> Ok (i+1) ρ h' -> Q v { s with heap:=h',toks:=tk }) ->
    wpAny (model cx.prog cx.w) A (pyNext it) QQ E s
  fin:∀ {i:Nat} {ρ:Rho} {H:Hp} {s:Shared} {Q:Option Value -> Shared -> Prop} {E:Value -> Shared -> Prop},Rel cx H ρ s -> Ok i ρ s.heap -> ck H=true -> xs[i]?=none -> (∀ q∈priv,cx.h₀.get? q=none) ->
    (∀ h' tk,Rel cx H ρ { s with heap:=h',toks:=tk } -> Step ρ s.heap ρ h' -> (∀ b o,b ∉ priv -> ¬ Aw ρ b -> s.heap.get? b=some o -> h'.get? b=some o) -> Q none { s with heap:=h',toks:=tk }) ->
    wpAny (model cx.prog cx.w) A (pyNext it) Q E s
noncomputable def Vf (cx:Cx) (A:Around) (env:Env) (sc:Scope) (ns:List (Option Str)) (target:Expr) (bind:Val -> Env' -> Option Env'):Prop :=
  ∀ (Γ Γ':Env') (H:Hp) (ρ:Rho) (s:Shared) (m:Val) (v:Value) (Q:Unit -> Shared -> Prop) (E:Value -> Shared -> Prop),bind m Γ=some Γ' -> Rel cx H ρ s -> EnvOk cx env sc ns Γ ρ s.heap -> VR cx ρ s.heap m v ->
    (∀ h' tk,FullS env ρ s.heap ρ h' -> Rel cx H ρ { s with heap:=h',toks:=tk } -> EnvOk cx env sc ns Γ' ρ h' -> Q () { s with heap:=h',toks:=tk }) -> wpAny (model cx.prog cx.w) A (assign target env v) Q E s
theorem Vg {i:Nat} {y:Str} {py:Pos} (ha:Ei ns) (ho:Fq sc ns i y=true):Vf cx A env sc ns (.Name y py) (Xu i):=by
  intro Γ Γ' H ρ s m v Q E hb R e0 vr k
  cases hb
  exact wpAny_assign_Name (D0 e0.len ha R e0 ho vr fun h' tk F R' e' _=>k h' tk F R' e')
theorem Q8 {it:Value} {target:Expr} {xs:List Val} {ck:Hp -> Bool} {bind:Val -> Env' -> Option Env'} {body:MSs} {stmts:List Stmt} {ρ₁:Rho} {s₁:Shared} (W:Walk cx A it target xs ck) (hfr:A.frames=some (env :: l)) (hB:Vf cx A env sc ns target bind)
    (hb:Kz cx A (env :: l) env sc ns (execs stmts env) (execSs cx.T Φ body))
    (e1:EnvOk cx env sc ns Γ ρ₁ s₁.heap) (fr:Bo cx (env :: l) ρ₁ s₁.heap) (lvB:Hr cx.h₀ s₁.heap) (hpriv:∀ q∈W.priv,s₁.heap.get? q=none)
    {s:Shared} {H:Hp} {ρ:Rho} (F0:FullS env ρ₁ s₁.heap ρ s.heap) (R0:Rel cx H ρ s) (e0:EnvOk cx env sc ns Γ ρ s.heap) (ok:W.Ok 0 ρ s.heap) {Q:Flow -> Shared -> Prop} {E:Value -> Shared -> Prop}
    (nb:Fo ck bind (execSs cx.T Φ body) xs Γ H≠.bad) (p:Agx cx env sc ns ρ₁ s₁.heap (Fo ck bind (execSs cx.T Φ body) xs Γ H) Q E) :
    codeAny (model cx.prog cx.w) A (.forLoop target it stmts [] env) (fun r s'=>match r with | .ok f=>Q f s' | .error e=>cameBackBy (model cx.prog cx.w) A env E e s') s:=by
  generalize hres:Fo ck bind (execSs cx.T Φ body) xs Γ H=res at nb p
  refine codeAny_forLoop_any (fun n s=>∃ i Γ H ρ,FullS env ρ₁ s₁.heap ρ s.heap /\ Rel cx H ρ s /\ EnvOk cx env sc ns Γ ρ s.heap /\ W.Ok i ρ s.heap /\ i <= xs.length /\ n=xs.length+1 - i /\ Fo ck bind (execSs cx.T Φ body) (xs.drop i) Γ H=res) ?_ (xs.length+1)
    ⟨0,Γ,H,ρ,F0,R0,e0,ok,Nat.zero_le _,rfl,hres⟩
  have privB:∀ q∈W.priv,cx.h₀.get? q=none:=fun q hq=>lvB.none (hpriv q hq)
  clear F0 R0 e0 ok hres
  intro n s zz
  refine ex4 zz fun i Γ H ρ zz=>R6 zz fun F R e0 ok hi hr0 hr=>?_
  cases hx:xs[i]? with
  | none =>
    rw [List.drop_eq_nil_of_le (List.getElem?_eq_none_iff.mp hx)] at hr
    rw [M9] at hr
    by_cases ckh:ck H=true
    · rw [if_pos ckh] at hr
      subst hr
      refine W.fin R ok ckh hx privB fun h' tk R' st ex=>?_
      refine wpAny_execs_nil ?_
      have e':EnvOk cx env sc ns Γ ρ h':=e0.priv ex (fun q hq=>(W.obj ok q hq).1) st
      have F':FullS env ρ₁ s₁.heap ρ h':=by
        refine ⟨F.grow,fun b o e n n1 n2=>?_,fun b o e=>?_⟩
        · refine ex1 (F.keep b o e n n1 n2) fun o' zz=>Ac zz fun eo' u=>?_
          exact ⟨o',ex b o' (fun w=>by rw [hpriv b w] at e;cases e) (F.grow.not n e) eo',u⟩
        · by_cases ow:Aw ρ b
          · exact R'.owned_lt ow
          · obtain ⟨o',eo'⟩:=F.live b o e
            exact ⟨o',ex b o' (fun w=>by rw [hpriv b w] at e;cases e) ow eo'⟩
      exact p _ ρ F' R' e'
    · rw [if_neg ckh] at hr;exact absurd hr.symm nb
  | some m =>
    have lt:i < xs.length:=(List.getElem?_eq_some_iff.mp hx).1
    have hdrop:xs.drop i=m :: xs.drop (i+1):=by
      rw [List.drop_eq_getElem_cons lt]
      rw [List.getElem?_eq_getElem lt] at hx
      cases hx;rfl
    rw [hdrop] at hr
    rw [Ku] at hr
    by_cases ckh:ck H=true
    · rw [if_pos ckh] at hr
      cases hbd:bind m Γ with
      | none=>rw [hbd] at hr;exact absurd hr.symm nb
      | some Γ1 =>
        rw [hbd] at hr
        dsimp only at hr
        refine W.item R ok ckh hx privB (fun v s₁ h=>h) fun v h' tk R' st ex lv vr ok'=>?_
        · -- what comes behind the item
          have e':EnvOk cx env sc ns Γ ρ h':=e0.priv ex (fun q hq=>(W.obj ok q hq).1) st
          have F':FullS env ρ₁ s₁.heap ρ h':=F.fresh hpriv ex lv
          refine hB Γ Γ1 H ρ { s with heap:=h',toks:=tk } m v _ _ hbd R' e' vr fun h2 tk2 F2 R2 e2=>?_
          have F12:FullS env ρ₁ s₁.heap ρ h2:=F'.trans F2
          have priv2:∀ q∈W.priv,(∀ o,h'.get? q=some o -> h2.get? q=some o) /\ ¬ Aw ρ q:=fun q hq=>by
            obtain ⟨⟨o,eo,io⟩,no⟩:=W.obj ok' q hq
            refine ⟨fun o2 eo2=>?_,no⟩
            rw [eo] at eo2;cases eo2
            refine ex1 (F2.keep q o eo no (e'.st.notLoc eo io.notDict) (e'.st.notCell eo io.notCell)) fun o3 zz=>Ac zz fun eo3 u=>?_
            rw [eo3,u.exact io.notDict]
          have ok2:W.Ok (i+1) ρ h2:=W.step ok' (FullS.step e'.st F2) priv2
          have fr2:Bo cx (env :: l) ρ h2:=fr.stmt F12 e1.st e2.st
          have B:=hb Γ1 H ρ { s with heap:=h2,toks:=tk2 } R2 e2 fr2
          cases hbody:execSs cx.T Φ body Γ1 H with
          | bad=>rw [hbody] at hr;exact absurd hr.symm nb
          | next Γ3 H3 =>
            rw [hbody] at hr B
            dsimp only [M8] at hr
            refine wpAny_mono B (fun f s3 q=>?_) fun _ _ q=>q.elim
            refine Ac q fun zr0 zz=>ex1 zz fun ρ3 zz=>As zz fun F3 R3 e3=>?_;subst zr0
            refine ⟨xs.length+1 - (i+1),by exact Aia lt hr0,i+1,Γ3,H3,ρ3,F12.trans F3,R3,e3,?_,lt,rfl,hr⟩
            refine W.step ok2 (FullS.step e2.st F3) fun q hq=>?_
            refine Ah fun G kG=>?_
            obtain ⟨⟨o,eo,io⟩,no⟩:=W.obj ok2 q hq
            refine kG ?_
            refine ⟨fun o2 eo2=>?_,F3.grow.not no eo⟩
            rw [eo] at eo2;cases eo2
            refine ex1 (F3.keep q o eo no (e2.st.notLoc eo io.notDict) (e2.st.notCell eo io.notCell)) fun o3 zz=>Ac zz fun eo3 u=>?_
            rw [eo3,u.exact io.notDict]
          | ret v3 H3 =>
            rw [hbody] at hr B
            dsimp only [M8] at hr
            subst hr
            refine wpAny_mono B (fun f s3 q=>?_) fun _ _ q=>q.elim
            refine Ah fun G kG=>?_
            refine ex2 q fun v' ρ3 zz=>By zz fun zr2 F3 R3 vr3=>?_;subst zr2
            refine kG ?_
            exact p s3 ρ3 v' (F12.trans F3) R3 vr3
          | exc c3 Γ3 H3 =>
            rw [hbody] at hr B
            dsimp only [M8] at hr
            exact absurd hr.symm nb
    · rw [if_neg ckh] at hr;exact absurd hr.symm nb
noncomputable def Vh (hh:A.handled=none) (xs:List Val) (I:Addr) (src:Option Nat) (y:Str) (py:Pos):Walk cx A (.ref I) (.Name y py) xs (chk src xs) where
  Ok i ρ h:=ItOk cx xs I i ρ h src /\ ¬ Aw ρ I
  priv:=[I]
  obj:=fun ⟨h1,h2⟩ q hq=>by rw [List.mem_singleton.mp hq];exact ⟨h1.obj,h2⟩
  step:=fun ⟨h1,h2⟩ st k=>⟨h1.step st (k I (.head _)).1,(k I (.head _)).2⟩
  item:=by
    intro i ρ H s m Q E E' QQ R ⟨ok,no⟩ ck hx hb qq k
    refine ex1 ok.obj fun o zz=>Ac zz fun e io=>?_
    refine No R ok ck hx fun v h' tk hs hl kk=>qq v _ ?_
    obtain ⟨o',e'⟩:=hl
    have st:Step ρ s.heap ρ h':=Step.but e' e hs io.not.1 io.not.2
    obtain ⟨vr,ok'⟩:=kk st
    refine wpAny_pure (k v h' tk (R.but e' e hs io.not.1 io.not.2 no (hb I (.head _))) st (fun b o nb _ eb=>by rw [hs.2 b (fun w=>nb (w▸.head _))];exact eb) (SameBut.live hs e') vr ⟨ok',no⟩)
  fin:=by
    intro i ρ H s Q E R ⟨ok,no⟩ ck hx hb k
    refine ex1 ok.obj fun o zz=>Ac zz fun e io=>?_
    refine Qz hh R ok ck hx fun h' tk he=>?_
    exact k h' tk (R.ext e he io.not.1 io.not.2 no (hb I (.head _))) (Step.ext e he io.not.1 io.not.2) fun b o nb _ eb=>he b o (fun w=>nb (w▸.head _)) eb
theorem Gu {E E':Value -> Shared -> Prop} {e:Value} {M:Model} (h:cameBackBy M A env E e s) (k:∀ e s,E e s -> E' e s):cameBackBy M A env E' e s:=wpAny_mono h (fun _ _=>k _ _) k
theorem Zc {i:Nat} {it:ME} {body:MSs} {y:Str} {x:Expr} {stmts:List Stmt} {py pos:Pos} (hh:A.handled=none) (hfr:A.frames=some (env :: l)) (ha:Ei ns) (ho:Fq sc ns i y=true) (hn:Ds x=true)
    (hx:∀ Γ:Env',Γ.length=ns.length -> EOk cx A ((Amb.env cx env sc ns Γ).and (Amb.frames cx (env :: l))) Φ env Γ it x) (hb:Kz cx A (env :: l) env sc ns (execs stmts env) (execSs cx.T Φ body)) :
    Kz cx A (env :: l) env sc ns (exec (.For (.Name y py) x stmts [] pos) env) (Fp cx.T Φ (.each i it body)):=by
  intro Γ H ρ s R e0 fr
  refine Ce.to ?_
  refine Bx.bindK (K:=fun xv Q E s=>wpAny (model cx.prog cx.w) A (pyIter xv) (fun it s₂=>codeAny (model cx.prog cx.w) A (.forLoop (.Name y py) it stmts [] env) (fun r s'=>match r with | .ok f=>Q f s' | .error e=>cameBackBy (model cx.prog cx.w) A env E e s') s₂) E s) e0 ((hx Γ e0.len).val H ρ s R ⟨e0,fr⟩) ?_ ?_ ?_
  · intro v xv H1 ρ1 s1 _ F1 R1 e1 vr
    refine Ce.look fun pr hp=>?_
    obtain ⟨xs,src⟩:=pr
    refine Ce.ofPost fun Q E nb p=>?_
    refine La R1 vr hp fun o go it0=>?_
    have F2:Full ρ1 s1.heap ρ1 (s1.heap.push o):=Full.push _ _ _
    exact Q8 (Vh hh xs s1.heap.objs.size src y py) hfr (Vg ha ho) hb e1 ((Amb.frames cx (env :: l)).st _ _ _ _ fr F1) (fun b o e=>⟨o,R1.base b o e⟩) (fun q hq=>by rw [List.mem_singleton.mp hq];exact Ap _) F2.toS (R1.push o s1.toks) (e1.full F2) ⟨it0,R1.fresh_not (Ap _)⟩ nb p
  · intro xv Q E Q' E' s h k1 k2
    exact wpAny_mono h (fun it s₂ h2=>codeAny_mono h2 fun r s' hr=>by
      cases r with
      | ok f=>exact k1 _ _ hr
      | error e=>exact Gu hr k2) k2
  · intro Q E h
    exact wpAny_For h (fun xv=>E7 hn env xv)
end
section
variable {cx:Cx} {N:Names} {A:Around} {Φ:Funs} {l:List Env} {d:Nat} {env:Env} {sc:Scope} {ns:List (Option Str)} {Γ:Env'} {H:Hp} {ρ ρ':Rho} {s:Shared}
theorem Vi (hh:A.handled=none) {i j:Nat} {y z:Str} {py pz pt:Pos} {k:Nat} (ha:Ei ns) (hy:Fq sc ns i y=true) (hz:Fq sc ns j z=true):Vf cx A env sc ns (.Tuple [.Name y py,.Name z pz] k pt) (Ab1 i j):=by
  intro Γ Γ' H ρ s m v Q E hb R e0 vr kk
  refine ex1 (Option.map_eq_some_iff.mp hb) fun zn0 zz=>Ac zz fun e1 hb=>?_;obtain ⟨a,b⟩:=zn0
  cases Tt e1
  cases hb
  · cases vr with
    | @tup t vs n ms g no zz r =>
      cases r with
      | @cons _ va _ _ ra r =>
        cases r with
        | @cons _ vb _ _ rb r =>
          cases r
          refine wpAny_assign_Tuple (items:=[va,vb].toArray) hh ⟨_,g,rfl,n,rfl⟩ rfl rfl fun h1 ex=>?_
          have kp:∀ b o,s.heap.get? b=some o -> h1.get? b=some o:=fun b o e=>ex b o (Nat.ne_of_lt (Heap.lt_size e)) e
          have F1:Full ρ s.heap ρ h1:=Full.more kp
          have R1:Rel cx H ρ { s with heap:=h1 }:=R.more (tk:=s.toks) kp
          refine wpAny_assignInOrder_more (wpAny_assign_Name (D0 (s:={ s with heap:=h1 }) (e0.full F1).len ha R1 (e0.full F1) hy (ra.step F1.step) fun h2 tk2 F2 R2 e2 _=>?_))
          have St2:=FullS.step (e0.full F1).st F2
          refine wpAny_assignInOrder_more (wpAny_assign_Name (D0 (s:={ s with heap:=h2,toks:=tk2 }) e2.len ha R2 e2 hz ((rb.step F1.step).step St2) fun h3 tk3 F3 R3 e3 _=>?_))
          exact wpAny_assignInOrder_none (kk h3 tk3 ((F1.toS.trans F2).trans F3) R3 e3)
theorem E9 {h:Heap} {i l:Addr} {k:Nat} (x:h.IsListIter i l k):∃ o,h.get? i=some o /\ Fz o:=by refine ex1 x fun o zz=>As zz fun e c d=>?_;exact ⟨o,e,⟨_,d⟩,_,c,by decide⟩
theorem Zd {h:Heap} {a b:Addr} {o:Obj} (x:∃ o,h.get? a=some o /\ Fz o) (e:h.get? b=some o) (n:∀ vs,o.data≠.fields vs):a≠b:=fun w=>by
  refine ex1 x fun o' zz=>Ac zz fun e' zz=>Ac zz fun zn2 _=>?_;obtain ⟨vs,d⟩:=zn2
  rw [w,e] at e';cases e'
  exact n vs d
noncomputable def Pz (_:Bool) (h:Heap) (I a:Addr) (k:Nat) (items:Array Value):Prop:=h.IsListIter I a k /\ h.IsList a items
section
variable {b:Bool} {h h':Heap} {I a c:Addr} {k:Nat} {items:Array Value}
theorem Pz.ext (x:Pz b h I a k items) (hs:Heap.ExtBut c h h') (n1:I≠c) (n2:a≠c):Pz b h' I a k items:=⟨x.1.extBut hs n1,x.2.extBut hs n2⟩
theorem Pz.obj (x:Pz b h I a k items):∃ o,h.get? I=some o /\ Fz o:=E9 x.1
theorem Pz.ne (x:Pz b h I a k items):a≠I:=fun w=>by
  refine ex1 x.2 fun o' zz=>As zz fun e' c zz=>ex1 zz fun n d'=>?_
  exact Zd x.obj e' (fun vs q=>by rw [d'] at q;cases q) w.symm
end
theorem Vj {h h':Heap} {qs:List Addr} (hq:∀ q∈qs,Aw ρ q \/ ∃ o,h.get? q=some o /\ Fz o) (k:∀ b o,b ∉ qs -> h.get? b=some o -> h'.get? b=some o):Step ρ h ρ h':=by
  refine ⟨⟨[],by simp⟩,fun b o e f n=>⟨k b o (fun w=>?_) e,n⟩,fun b o C e f n=>⟨o,k b o (fun w=>?_) e,f,n⟩⟩
  · rcases hq b w with w | ⟨o',e',io⟩
    · exact n w
    · rw [e] at e';cases e';exact io.not.1 f
  · rcases hq b w with w | ⟨o',e',io⟩
    · exact n w
    · rw [e] at e';cases e';exact io.not.2 C f
inductive ZIt (cx:Cx) (xs:List Val) (I:Addr) (i:Nat) (ρ:Rho) (h:Heap):Option Nat -> Prop
  | list {l:Nat} {p:Addr × Addr}:ρ[l]?=some p -> h.IsListIter I p.1 i -> ZIt cx xs I i ρ h (some l)
section
variable {xs:List Val} {I:Addr} {i:Nat} {src:Option Nat}
theorem ZIt.obj {h:Heap} (x:ZIt cx xs I i ρ h src):∃ o,h.get? I=some o /\ Fz o:=by
  cases x with
  | list hp hi=>exact E9 hi
theorem ZIt.step {h h':Heap} (x:ZIt cx xs I i ρ h src) (st:Step ρ h ρ' h') (k:∀ o,h.get? I=some o -> h'.get? I=some o):ZIt cx xs I i ρ' h' src:=by
  cases x with
  | list hp hi=>exact .list (st.get hp) (hi.at k)
end
structure ZOk (cx:Cx) (xs ys:List Val) (l1 l2:Option Nat) (hl:Nat) (z TI i1 i2:Addr) (i:Nat) (ρ:Rho) (h:Heap):Prop where
  zip:∃ TO,ρ[hl]?=some (TO,TO) /\ IsZip h z TI TO .none
  ti:h.get? TI=some (T0 [.ref i1,.ref i2] 0) /\ ¬ Aw ρ TI
  it1:ZIt cx xs i1 i ρ h l1
  it2:ZIt cx ys i2 i ρ h l2
  no:¬ Aw ρ z /\ ¬ Aw ρ i1 /\ ¬ Aw ρ i2
end
section
variable {cx:Cx} {N:Names} {A:Around} {Φ:Funs} {l:List Env} {d:Nat} {env:Env} {sc:Scope} {ns:List (Option Str)} {Γ:Env'} {H:Hp} {ρ ρ':Rho} {s:Shared}
set_option tactic.hygienic true in
theorem Vk {v:Val} {H:Hp} {xs:List Val} {l:Nat} (h:I8 v H=some (xs,l)):v=.loc l /\ H[l]?=some (.list xs):=by
  unfold I8 at h
  split at h
  · split at h
    · rename_i hl;cases h;exact ⟨rfl,hl⟩
    · exact Aa h
  · exact Aa h
theorem Ze:(("enumerate":Str),Value.type "enumerate")∈Ep:=by
  unfold Ep
  repeat (first | exact List.Mem.head _ | apply List.Mem.tail)
noncomputable abbrev loopK (cx:Cx) (A:Around) (env:Env) (target:Expr) (stmts:List Stmt) (zv:Value):(Flow -> Shared -> Prop) -> (Value -> Shared -> Prop) -> Shared -> Prop:=fun Q E s =>
  wpAny (model cx.prog cx.w) A (pyIter zv) (fun it s₂=>codeAny (model cx.prog cx.w) A (.forLoop target it stmts [] env) (fun r s'=>match r with | .ok f=>Q f s' | .error e=>cameBackBy (model cx.prog cx.w) A env E e s') s₂) E s
theorem Su {target:Expr} {stmts:List Stmt} {zv:Value}:Sa (loopK cx A env target stmts zv):=by
  intro Q E Q' E' s h k1 k2
  exact wpAny_mono h (fun it s₂ h2=>codeAny_mono h2 fun r s' hr=>by
    cases r with
    | ok f=>exact k1 _ _ hr
    | error e=>exact Gu hr k2) k2
theorem Agy {h:Heap} {e it:Addr} {i:Int} {f:Value} (x:IsEnum h e it i f):∃ o,h.get? e=some o /\ Fz o:=⟨_,x,⟨_,rfl⟩,_,rfl,by decide⟩
theorem Jk:∀ {xs:List Val} {n i:Nat} {m:Val},(B4 n xs)[i]?=some m -> ∃ a,xs[i]?=some a /\ m=.tup [.int ((n+i:Nat):Int),a]
  | [],_,_,_,h=>by simp [B4] at h
  | a :: xs,n,0,m,h=>by simp [B4] at h;exact ⟨a,rfl,by rw [<- h];rfl⟩
  | a :: xs,n,i+1,m,h=>by
    have h':(B4 (n+1) xs)[i]?=some m:=by simpa [B4] using h
    refine ex1 (Jk h') fun a' zz=>Ac zz fun h1 h2=>?_
    exact ⟨a',by simpa using h1,by rw [h2,show n+1+i=n+(i+1) by exact Aj1]⟩
theorem Hz:∀ {xs:List Val} {n i:Nat},(B4 n xs)[i]?=none -> xs[i]?=none
  | [],_,_,_=>by simp
  | a :: xs,n,0,h=>by simp [B4] at h
  | a :: xs,n,i+1,h=>by
    have h':(B4 (n+1) xs)[i]?=none:=by simpa [B4] using h
    simpa using Hz h'
structure EnOk (cx:Cx) (xs:List Val) (l1:Nat) (e it:Addr) (i:Nat) (ρ:Rho) (h:Heap):Prop where
  en:∃ old,IsEnum h e it i old
  it1:∃ p,ρ[l1]?=some p /\ h.IsListIter it p.1 i
  no:¬ Aw ρ e /\ ¬ Aw ρ it
noncomputable def Zf (hh:A.handled=none) (xs:List Val) (l1:Nat) (e it:Addr) (n1:e≠it) (elts:List Expr) (k:Nat) (pt:Pos):Walk cx A (.ref e) (.Tuple elts k pt) (B4 0 xs) (chk (some l1) xs) where
  Ok i ρ h:=EnOk cx xs l1 e it i ρ h
  priv:=[e,it]
  obj:=by
    intro i ρ h ok q hq
    refine Ah fun G kG=>?_
    obtain ⟨old,he⟩:=ok.en
    refine ex1 ok.it1 fun p1 zz=>Ac zz fun _ hi1=>?_
    refine kG ?_
    simp only [List.mem_cons,List.not_mem_nil,or_false] at hq
    rcases hq with rfl | rfl
    · exact ⟨Agy he,ok.no.1⟩
    · exact ⟨E9 hi1,ok.no.2⟩
  step:=by
    intro i ρ h ρ' h' ok st kk
    refine Ah fun G kG=>?_
    obtain ⟨old,he⟩:=ok.en
    refine ex1 ok.it1 fun p1 zz=>Ac zz fun e1 hi1=>?_
    refine kG ?_
    have kz:=kk e (by simp)
    have k1:=kk it (by simp)
    exact ⟨⟨old,kz.1 _ he⟩,⟨p1,st.get e1,hi1.at k1.1⟩,kz.2,k1.2⟩
  item:=by
    intro i ρ H s m Q E E' QQ R ok ck hx hb qq kk
    obtain ⟨old,he⟩:=ok.en
    refine ex1 ok.it1 fun p1 zz=>Ac zz fun e1 hi1=>?_
    have H1:=Qr ck
    refine ex2 (R.listAt H1 e1) fun vs nv zz=>By zz fun pp1 g1 r1 z1=>?_
    refine ex1 (Jk hx) fun a zz=>Ac zz fun ha zr2=>?_;subst zr2
    refine ex1 (r1.get ha) fun va zz=>Ac zz fun eva ra=>?_
    refine wpAny_pyNext_enum_item (items:=vs.toArray) (x:=va) he hi1 ⟨_,g1,rfl,nv,rfl⟩ (by simpa using eva) n1 fun h1 he1 hi1' hT1 hsz1 hk1=>qq _ _ ?_
    refine wpAny_letOwnedTupleGo_enum he1 fun h2 he2 hs2=>?_
    have zT:s.heap.objs.size≠e:=fun w=>by have:=Heap.lt_size he;rw [<- w] at this;exact Nat.lt_irrefl _ this
    have keep:∀ b o,b ∉ [e,it] -> s.heap.get? b=some o -> h2.get? b=some o:=fun b o nb eb=>by
      simp only [List.mem_cons,List.not_mem_nil,or_false,not_or] at nb
      exact hs2.extBut _ _ nb.1 (hk1 b o nb.1 nb.2 eb)
    have hT2:h2.get? s.heap.objs.size=some (T0 [.int i s.toks,va] 0):=hs2.extBut _ _ zT hT1
    have hi1'':=hi1'.extBut hs2.extBut n1.symm
    have st:Step ρ s.heap ρ h2:=Vj (qs:=[e,it]) (fun q hq=>by
      simp only [List.mem_cons,List.not_mem_nil,or_false] at hq
      rcases hq with rfl | rfl
      · exact .inr (Agy he)
      · exact .inr (E9 hi1)) keep
    have R2:Rel cx H ρ { s with heap:=h2,toks:=s.toks+1 }:=by
      refine R.same st (fun b o ow eb=>keep b o (by simp only [List.mem_cons,List.not_mem_nil,or_false,not_or];exact ⟨fun w=>ok.no.1 (w▸ow),fun w=>ok.no.2 (w▸ow)⟩) eb) fun b o eb=>keep b o ?_ (R.base b o eb)
      simp only [List.mem_cons,List.not_mem_nil,or_false,not_or]
      refine ⟨fun w=>?_,fun w=>?_⟩
      · rw [w,hb e (by simp)] at eb;exact nomatch eb
      · rw [w,hb it (by simp)] at eb;exact nomatch eb
    have lv:Hr s.heap h2:=fun b o eb=>by
      by_cases q:b∈[e,it]
      · simp only [List.mem_cons,List.not_mem_nil,or_false] at q
        rcases q with rfl | rfl
        · exact ⟨_,he2⟩
        · refine ex1 hi1'' fun o zz=>Ac zz fun e _=>?_;exact ⟨o,e⟩
      · exact ⟨o,keep b o q eb⟩
    refine kk _ h2 (s.toks+1) R2 st (fun b o nb no eb=>keep b o nb eb) lv ?_ ?_
    · refine .tup hT2 (R.fresh_not (Ap _)) (show 2 <= sizeLine by skip;decide) (.cons ?_ (.cons (ra.step st) .nil))
      rw [Nat.zero_add];exact .int _ _
    · refine ⟨⟨va,?_⟩,⟨p1,e1,hi1''⟩,ok.no⟩
      have e':(((i+1:Nat)):Int)=(i:Int)+1:=by exact o38
      skip;exact he2
  fin:=by
    intro i ρ H s Q E R ok ck hx hb kk
    refine Ah fun G kG=>?_
    obtain ⟨old,he⟩:=ok.en
    refine ex1 ok.it1 fun p1 zz=>Ac zz fun e1 hi1=>?_
    have H1:=Qr ck
    refine ex2 (R.listAt H1 e1) fun vs nv zz=>By zz fun pp1 g1 r1 z1=>?_
    have hn:=Hz hx
    refine ex1 (E9 hi1) fun oi zz=>Ac zz fun ei ioi=>?_
    refine kG ?_
    refine wpAny_pyNext_enum_end hh he hi1 ⟨_,g1,rfl,nv,rfl⟩ (by rw [List.getElem?_eq_none_iff] at hn;have:=r1.length;simp;exact o40 this hn) fun h' keep=>?_
    exact kk h' s.toks (R.ext ei keep ioi.not.1 ioi.not.2 ok.no.2 (hb it (by simp))) (Step.ext ei keep ioi.not.1 ioi.not.2) fun b o nb _ eb=>keep b o (fun w=>nb (by rw [w];simp)) eb
theorem N2 (B:Base cx N) {i j:Nat} {a:ME} {body:MSs} {y z f:Str} {p:Expr} {stmts:List Stmt} {py pz pt fp cp pos:Pos} {kk:Nat} (hh:A.handled=none) (hfr:A.frames=some (env :: l)) (ha:Ei ns) (hy:Fq sc ns i y=true) (hz:Fq sc ns j z=true)
    (hg:Bd sc f=true) (hf:f=("enumerate":Str)) (np:Hd p=true)
    (hp:∀ Γ:Env',Γ.length=ns.length -> EOk cx A ((Amb.env cx env sc ns Γ).and (Amb.frames cx (env :: l))) Φ env Γ a p)
    (hb:Kz cx A (env :: l) env sc ns (execs stmts env) (execSs cx.T Φ body)) :
    Kz cx A (env :: l) env sc ns (exec (.For (.Tuple [.Name y py,.Name z pz] kk pt) (.Call (.Name f fp) [p] [] cp) stmts [] pos) env) (Fp cx.T Φ (.eachEnum i j a body)):=by
  refine Ah fun G kG=>?_
  refine ex2 B.ns fun mg mb zz=>Kp zz fun ng nb' _ _ _ tab=>?_
  have q12:mg ("enumerate":Str)=none /\ mb ("enumerate":Str)=some (.type "enumerate"):=tab _ Ze
  obtain ⟨q1,q2⟩:=q12
  refine kG ?_
  rw [<- hf] at q1 q2
  intro Γ H ρ s R e0 fr
  refine Ce.to ?_
  refine Bx.bindK (K:=fun va Q E s=>wpAny (model cx.prog cx.w) A (call (.type "enumerate") [va]) (fun zv s''=>loopK cx A env (.Tuple [.Name y py,.Name z pz] kk pt) stmts zv Q E s'') E s) e0 ((hp Γ e0.len).val H ρ s R ⟨e0,fr⟩) ?_ ?_ ?_
  · intro v va H2 ρ2 s2 _ F1 R2 e2 vr1
    have fr2:Bo cx (env :: l) ρ2 s2.heap:=fr.full F1
    refine Ce.look fun pr1 h1=>?_
    obtain ⟨xs,l1⟩:=pr1
    obtain ⟨rfl,H1'⟩:=Vk h1
    refine Ce.ofPost fun Q E nb p=>?_
    cases vr1 with
    | @loc _ p1 e1' =>
      refine Ah fun G kG=>?_
      refine ex2 (R2.listAt H1' e1') fun vs nv zz=>By zz fun pp1 g1 r1 z1=>?_
      refine kG ?_
      refine call_enumerate_1 (items:=vs.toArray) g1 fun h3 he3 hi1 hsz kp=>?_
      refine wpAny_pyIter_enum he3 ?_
      have fresh:∀ k,s2.heap.get? (s2.heap.objs.size+k)=none:=fun k=>Ff (Nat.le_add_right _ _)
      have F3:Full ρ2 s2.heap ρ2 h3:=Full.more kp
      have R3:Rel cx H2 ρ2 { s2 with heap:=h3 }:=R2.more (tk:=s2.toks) kp
      refine Q8 (Zf hh xs l1 (s2.heap.objs.size+1) s2.heap.objs.size (Nat.succ_ne_self _) [.Name y py,.Name z pz] kk pt) hfr (Vi hh ha hy hz) hb e2 fr2 (fun b o e=>⟨o,R2.base b o e⟩) ?_ F3.toS R3 (e2.full F3) ?_ nb p
      · intro q hq
        have hq':q=s2.heap.objs.size+1 \/ q=s2.heap.objs.size:=by
          have hq2:q∈[s2.heap.objs.size+1,s2.heap.objs.size]:=hq
          simpa using hq2
        rcases hq' with rfl | rfl
        · exact fresh 1
        · exact fresh 0
      · exact ⟨⟨_,he3⟩,⟨p1,e1',hi1⟩,R2.fresh_not (fresh 1),R2.fresh_not (fresh 0)⟩
  · intro va Q E Q' E' s h k1 k2
    exact wpAny_mono h (fun zv s'' h''=>Su _ _ _ _ _ h'' k1 k2) k2
  · intro Q E h
    refine wpAny_For ?_ (fun xv=>rfl)
    refine wpAny_Call_ofName (wp_glob R e0.st hg ng nb' (v:=.type "enumerate") (.inr ⟨q1,q2⟩) ?_)
    have pl:Bf env [p]:=⟨Bb np,trivial⟩
    rw [Al cp pl]
    refine PyProof.Rows.callWith_type (Cq _) (Calls.evalArgs_plain (Calls.spliced_cons (wpAny_mono h (fun v s' h'=>?_) fun _ _ q=>q)))
    exact Calls.spliced_nil h'
end
section
variable {cx:Cx} {N:Names} {A:Around} {Φ:Funs} {l:List Env} {d:Nat} {env:Env} {sc csc:Scope} {ns:List (Option Str)} {Γ:Env'} {H:Hp} {ρ ρ':Rho} {s:Shared}
theorem N3 {m:ME} {x:Expr} {t:Option Expr} {ln:Nat} (h:ck N sc ns m x=true) (hm:∀ a b c,m≠.comp a b c):swapsWith x t ln env=pure false:=by
  have z:=Uf h
  have hc:Aaz m=false:=by cases m <;> first | rfl | exact absurd rfl (hm _ _ _)
  rw [hc] at z
  cases x <;> first | rfl | exact Cd z
theorem Sv {x:Expr} {y:Str} {py:Pos} {ln:Nat}:swapsWith x (some (.Name y py)) ln env=pure true \/ swapsWith x (some (.Name y py)) ln env=pure false:=by
  have:∃ b,swapsWith x (some (.Name y py)) ln env=pure b:=by cases x <;> exact ⟨_,rfl⟩
  obtain ⟨b,e⟩:=this
  cases b
  · exact .inr e
  · exact .inl e
theorem Er {i:Nat} {m:ME} {y:Str} {x:Expr} {py pos:Pos} (ha:Ei ns) (ho:Fq sc ns i y=true) (hs:swapsWith x (some (.Name y py)) pos.line env=pure false)
    (hx:∀ Γ:Env',Γ.length=ns.length -> EOk cx A ((Amb.env cx env sc ns Γ).and (Amb.frames cx l)) Φ env Γ m x) :
    Kz cx A l env sc ns (exec (.Assign [.Name y py] x pos) env) (Fp cx.T Φ (.assign i m)):=by
  intro Γ H ρ s R e0 fr
  refine Ce.to (Bx.bindK (K:=fun v Q E s=>wpAny (model cx.prog cx.w) A (storeName env y v) (fun _=>Q .next) E s) e0 ((hx Γ e0.len).val H ρ s R ⟨e0,fr⟩) (fun b v H1 ρ1 s1 _ F1 R1 e1 vr=>Ve ha R1 e1 ho vr) (fun _=>Py) fun Q E h=>wpAny_Assign_Name h hs)
theorem Jl (hh:A.handled=none) {i:Nat} {elt it:ME} {cond:MEo} {e x:Expr} {t y:Str} {ifs:List Expr} {tp py cp pos:Pos} (ha:Ei ns) (ho:Fq sc ns i y=true) (hs:swapsWith (.ListComp e [⟨.Name t tp,x,ifs,0⟩] csc cp) (some (.Name y py)) pos.line env=pure true) (hi:Ds x=true) (hc:Jd sc csc t=true)
    (pt:CParts cx A Φ l csc (Dp csc ns++[some t]) cond elt ifs e) (hx:∀ Γ:Env',Γ.length=ns.length -> EOk cx A ((Amb.env cx env sc ns Γ).and (Amb.frames cx l)) Φ env Γ it x) :
    Kz cx A l env sc ns (exec (.Assign [.Name y py] (.ListComp e [⟨.Name t tp,x,ifs,0⟩] csc cp) pos) env) (Fp cx.T Φ (.assign i (.comp elt it cond))):=by
  refine As (Bm hc) fun c1 c2 c3=>?_
  intro Γ H ρ s R e0 fr
  rw [Ts,N0]
  have assoc:∀ (m:M Val) (f:Val -> M Val) (g:Val -> Hp -> ResS) (H:Hp),Fr (m.bnd f) Γ g H=Fr m Γ (fun v=>Fr (f v) Γ g) H:=by
    intro m f g H
    unfold Fr M.bnd
    cases m H <;> rfl
  rw [assoc]
  refine Ce.to (Bx.bindK (K:=fun xv Q E s=>wpAny (model cx.prog cx.w) A (pyIter xv) (fun it s₂=>wpAny (model cx.prog cx.w) A (newList []) (fun acc s₃=>wpAny (model cx.prog cx.w) A (newFunctionEnv csc env.globals (Ew env csc.names []) [] env.qual none .none (some env)) (fun cenv s₄ =>
      codeAny (model cx.prog cx.w) A (.compStart (.ListComp e [⟨.Name t tp,x,ifs,0⟩] csc cp) 0 it acc { cenv with scope:=relabel csc env }) (compPost (model cx.prog cx.w) A E (some (assign (.Name y py) env)) (fun _ s'=>Q .next s') acc cenv.locals) s₄) E s₃) E s₂) E s) e0 ((hx Γ e0.len).val H ρ s R ⟨e0,fr⟩) ?_ ?_ ?_)
  · intro v xv H1 ρ1 s1 _ F1 R1 e1 vr
    rcases Fw (T:=cx.T) (Φ:=Φ) (cond:=cond) (elt:=elt) (Γ:=Γ) (v:=v) (H:=H1) with w | ⟨xs,src,ys,H₂,w1,w2,w3,w4⟩
    · unfold Fr;rw [w];trivial
    · unfold Fr;rw [w4]
      refine Ld hh hc ha e1.len pt R1 e1 ((Amb.frames cx l).st _ _ _ _ fr F1) vr w1 w2 w3 fun D C ρ' s' F' R' v' m' n' hC=>?_
      obtain ⟨m,hm⟩:=m'
      have e':=e1.full F'
      have lvB:Hr cx.h₀ s1.heap:=fun b o e=>⟨o,R1.base b o e⟩
      refine wpAny_assign_Name (D0 e'.len ha R' e' ho v' fun h2 tk2 F2 R2 e2 hq=>?_)
      refine Ah fun G kG=>?_
      refine ex2 hq fun q oq zz=>As zz fun hqd hqs gq=>?_
      have live:∀ {b:Addr},(∃ o,s1.heap.get? b=some o) -> b≠C:=fun ⟨o,eo⟩ w=>by rw [w,hC] at eo;exact Aa eo
      have locL:env.locals≠C:=live (by refine ex1 e1.st.loc fun m zz=>ex3 zz fun o es ep zz=>Ac zz fun e _=>?_;exact ⟨o,e⟩)
      have celL:∀ z c,env.cells.lookup z=some c -> c≠C:=fun z c hc=>live (by obtain ⟨⟨v,o,e,_⟩,_⟩:=e1.st.cells z c hc;exact ⟨o,e⟩)
      have qC:C≠q:=by
        rcases hqd with ⟨_,rfl⟩ | ⟨_,w⟩
        · exact locL.symm
        · exact (celL y q w).symm
      have hm2:h2.Ns C m:=Ba hm fun o eo=>⟨o,by rw [hqs.2 C qC];exact eo,rfl⟩
      refine ex1 (U9 hm2) fun oC zz=>As zz fun gC nf nx=>?_
      refine kG ?_
      refine ⟨m,hm2,fun h3 hs3=>?_⟩
      have st:Step ρ' h2 ρ' h3:=Step.ext gC hs3.extBut nf nx
      have FF:FullS env ρ1 s1.heap ρ' h2:=F'.toS.trans F2
      refine ⟨rfl,ρ',?_,R2.ext (tk:=tk2) gC hs3.extBut nf nx n' (lvB.none hC),e2.but hs3.extBut locL.symm (fun z w=>celL z C w rfl) st⟩
      refine ⟨FF.grow,fun b o eb n n1 n2=>?_,fun b o eb=>?_⟩
      · refine ex1 (FF.keep b o eb n n1 n2) fun o' zz=>Ac zz fun e' u=>?_
        exact ⟨o',hs3.extBut b o' (live ⟨o,eb⟩) e',u⟩
      · obtain ⟨o',e'⟩:=FF.live b o eb
        exact ⟨o',hs3.extBut b o' (live ⟨o,eb⟩) e'⟩
  · intro xv Q E Q' E' s h k1 k2
    exact wpAny_mono h (fun it s₂ h2=>wpAny_mono h2 (fun acc s₃ h3=>wpAny_mono h3 (fun cenv s₄ h4=>codeAny_mono h4 fun r s' hr=>Gr hr (fun _ s=>k1 _ s) k2) k2) k2) k2
  · intro Q E h
    rw [exec_Assign_Name_used _ _ _ _ hs]
    refine wpAny_bind (wpAny_standAt (wpAny_bind ?_))
    show wpAny _ A (do let _ <- comprehension (.ListComp e [⟨.Name t tp,x,ifs,0⟩] csc cp) csc env _ (newList []) false (eval x env) (some (assign (.Name y py) env))) _ _ s
    refine wpAny_bind (wpAny_mono (wpAny_comprehension_free (use:=some (assign (.Name y py) env)) (Q:=fun _ s'=>Q .next s') (g:=⟨.Name t tp,x,ifs,0⟩) (gs:=[]) rfl (fun xv=>E7 hi env xv)
      (Gq fun p' hp' hf=>e0.st.hasCell p'.1 (by rcases (c3 p' hp').2 hf with w | w;exact .inl w;exact .inr w)) c1 (fun p' hp' hl=>by rw [(c3 p' hp').1,hl]) h) (fun _ s' hq=>wpAny_pure (wpAny_pure hq)) fun _ _ e=>e)
theorem Sw (G:Ground cx N A Φ l d) {i:Nat} {m:ME} {y:Str} {x:Expr} {py pos:Pos} (ha:Ei ns) (ho:Fq sc ns i y=true) (hm:ck N sc ns m x=true) :
    Kz cx A l env sc ns (exec (.Assign [.Name y py] x pos) env) (Fp cx.T Φ (.assign i m)):=by
  rcases Sv (env:=env) (x:=x) (y:=y) (py:=py) (ln:=pos.line) with hs | hs
  · by_cases hc:∃ a b c,m=.comp a b c
    · refine ex3 hc fun elt it cond zr3=>?_;subst zr3
      refine ex7 (Qy hm) fun el t px i' ifs csc cp zz=>Kp zz fun zr7 h1 h2 h3 h4 h5=>?_;subst zr7
      exact Jl G.room.hh ha ho hs h2 h3 ⟨fun cenv Γ' hΓ'=>econd G cond ifs cenv csc _ Γ' h5 (E8 ha (Bm h3).2.1) hΓ',fun cenv Γ' hΓ'=>(eok G elt el cenv csc _ Γ' h4 (E8 ha (Bm h3).2.1) hΓ').val⟩
        fun Γ hΓ=>eok G it i' env sc ns Γ h1 ha hΓ
    · have:=N3 (env:=env) (t:=some (.Name y py)) (ln:=pos.line) hm fun a b c w=>hc ⟨a,b,c,w⟩
      exact Er ha ho this fun Γ hΓ=>eok G m x env sc ns Γ hm ha hΓ
  · exact Er ha ho hs fun Γ hΓ=>eok G m x env sc ns Γ hm ha hΓ
end
section
variable {cx:Cx} {N:Names} {A:Around} {Φ:Funs} {l:List Env} {d:Nat} {env:Env} {sc:Scope} {ns:List (Option Str)} {Γ:Env'} {H:Hp} {ρ:Rho} {s:Shared}
theorem Sx {v m:Val} {n:Nat} {u:Unit} {H':Hp} (h:Bn v n m H=.ok u H'):∃ i c fs,v=.loc i /\ H[i]?=some (.inst c fs) /\ H'=H.set i (.inst c (Tj fs n m)):=by
  unfold Bn at h
  split at h
  · split at h
    · cases h;exact ⟨_,_,_,rfl,by assumption,rfl⟩
    · exact Df h
  · exact Df h
theorem Mh {v m:Val} {n c:Nat} {H':Hp} (h:Bn v n m H=.exc c H'):False:=by
  unfold Bn at h
  split at h
  · split at h <;> cases h
  · cases h
theorem Sy {x p:Expr} {y:Str} {q:Pos} {ln:Nat}:swapsWith x (some (.Attribute p y q)) ln env=pure false:=by cases x <;> rfl
theorem P0 (G:Ground cx N A Φ l d) {o e:ME} {n:Nat} {p x:Expr} {y:Str} {q pos:Pos} (ha:Ei ns) (hx:ck N sc ns e x=true) (hp:ck N sc ns o p=true) (hn:Do N.attrs y n=true) :
    Kz cx A l env sc ns (exec (.Assign [.Attribute p y q] x pos) env) (Fp cx.T Φ (.setattr o n e)):=by
  intro Γ H ρ s R e0 fr
  refine Ce.to (Bx.bindK (K:=fun v Q E s=>wpAny (model cx.prog cx.w) A (eval p env) (fun ov s₂=>wpAny (model cx.prog cx.w) A (setAttr ov y v) (fun _=>Q .next) E s₂) E s) e0 ((eok G e x env sc ns Γ hx ha e0.len).val H ρ s R ⟨e0,fr⟩) ?_ ?_ fun Q E h=>plainObj_wpAny_Assign_Attribute h Sy)
  · intro b v H1 ρ1 s1 _ F1 R1 e1 vr
    refine Bx.bindK (K:=fun ov Q E s=>wpAny (model cx.prog cx.w) A (setAttr ov y v) (fun _=>Q .next) E s) e1 ((eok G o p env sc ns Γ hp ha e1.len).val H1 ρ1 s1 R1 ⟨e1,fr.full F1⟩) ?_ ?_ (fun Q E h=>h)
    · intro b2 ov H2 ρ2 s2 _ F2 R2 e2 vo
      have vo':VR cx ρ2 s2.heap b2 ov:=vo
      unfold Fr
      cases hr:Bn b2 n b H2 with
      | bad=>trivial
      | exc c H3=>exact (Mh hr).elim
      | ok u H3 =>
        refine ex3 (Sx hr) fun i c fs zz=>As zz fun zr3 hi zr5=>?_;subst zr3;subst zr5
        refine ex1 vo'.loc_inv fun p1 zz=>Ac zz fun hp1 hr0=>?_;refine Eq.symm hr0▸?_
        exact Sq G.base.cls R2 hi hp1 (G.base.cls.attr y n (C8 hn)) (VR.step F2.step vr) fun s' F R'=>⟨rfl,ρ2,F.toS,R',e2.full F⟩
    · exact fun _ Q E Q' E' s h k1 k2=>wpAny_mono h (fun _ _=>k1 _ _) k2
  · exact fun _ Q E Q' E' s h k1 k2=>wpAny_mono h (fun _ _ h'=>wpAny_mono h' (fun _ _=>k1 _ _) k2) k2
end
section
variable {cx:Cx} {N:Names} {A:Around} {Φ:Funs} {l:List Env} {d:Nat} {env:Env} {sc:Scope} {ns:List (Option Str)} {Γ:Env'} {H:Hp} {ρ:Rho} {s:Shared}
set_option maxRecDepth 100000 in
theorem Sz {a:Addr} {vs:List Value} {n:Nat} {k:Int} {t:Tok} {v:Value} {Q:Unit -> Shared -> Prop} {E:Value -> Shared -> Prop} (g:s.heap.get? a=some (A8 vs n)) (h0:0 <= k) (hk:k < vs.length) (hf:k < 2 ^ 63)
    (hQ:Q () { s with heap:=s.heap.update a (Obj.mapSeq (·.setIfInBounds k.toNat v)) }):wpAny (model cx.prog cx.w) A (setItem (.ref a) (.int k t) v) Q E s:=by
  have hl:s.heap.IsList a vs.toArray:=⟨_,g,rfl,n,rfl⟩
  unfold setItem
  try with_reducible refine wpAny_holding ?_
  first | refine wpAny_bind (wpAny_pure ?_) | skip
  refine wpAny_bind (wpAny_sequenceKey hl.typeIs (by decide) ?_)
  refine wpAny_bind (wpAny_callSpecial?_slot (name:=Str.ofString "__setitem__") hl.typeIs slot_list_setitem (wpAny_call_entry slot_list_setitem hl.typeIs entry_list_setitem ?_ (args_list_setitem _ _ _)))
  show wpAny _ _ (Builtin.List.listSubscript? (.int k t)>>=_) _ _ s
  refine wpAny_bind (wpAny_listSubscript_int (fitsIndex_of h0 hf) ?_)
  clear hf
  obtain ⟨j,rfl⟩:=Int.eq_ofNat_of_zero_le h0
  have hj:j < vs.toArray.size:=by simp only [List.size_toArray];exact Aar hk
  have hx':vs.toArray[j]?=some vs.toArray[j]:=Array.getElem?_eq_getElem hj
  refine wpAny_bind (wpAny_bind (wpAny_seqItemAt g rfl (wpAny_pure ?_)))
  rw [hx']
  refine wpAny_bind (wpAny_setSeqItemAt g rfl ?_)
  first
    | exact wpAny_bind (wpAny_pure (wpAny_pure ⟨.none,rfl,wpAny_pure hQ⟩))
    | exact wpAny_pure ⟨.none,rfl,wpAny_pure hQ⟩
theorem VRs.setArr {xs:List Val} {vs:List Value} {m:Val} {v:Value} {h:Heap} (r:VRs cx ρ h xs vs) (k:Nat) (a:VR cx ρ h m v):VRs cx ρ h (xs.set k m) (vs.toArray.setIfInBounds k v).toList:=by
  have:(vs.toArray.setIfInBounds k v).toList=vs.set k v:=by simp
  rw [this];exact r.set k a
set_option tactic.hygienic true in
theorem S0 {o i m:Val} {u:Unit} {H':Hp} (h:Bw o i m H=.ok u H'):∃ l,o=.loc l /\ ((∃ xs k,H[l]?=some (.list xs) /\ i=.int k /\ 0 <= k /\ k < xs.length /\ H'=H.set l (.list (xs.set k.toNat m))) \/
    ∃ es k,H[l]?=some (.dict es) /\ Ec i=some k /\ es.length < lid /\ H'=H.set l (.dict (Hq es k m))):=by
  unfold Bw at h
  split at h
  · rename_i l
    split at h
    · rename_i xs hl
      split at h
      · rename_i k
        by_cases q:0 <= k /\ k < xs.length
        · rw [if_pos q] at h;cases h;exact ⟨l,rfl,.inl ⟨xs,k,hl,rfl,q.1,q.2,rfl⟩⟩
        · rw [if_neg q] at h;exact Df h
      · exact Df h
    · rename_i es hl
      split at h
      · rename_i k hk
        by_cases q:es.length < lid
        · rw [if_pos q] at h;cases h;exact ⟨l,rfl,.inr ⟨es,k,hl,hk,q,rfl⟩⟩
        · rw [if_neg q] at h;exact Df h
      · exact Df h
    · exact Df h
  · exact Df h
theorem Mi {o i m:Val} {c:Nat} {H':Hp} (h:Bw o i m H=.exc c H'):False:=by
  unfold Bw at h
  split at h
  · split at h
    · split at h
      · split at h <;> cases h
      · cases h
    · split at h
      · split at h <;> cases h
      · cases h
    · cases h
  · cases h
theorem S1 (hu:A.units+100 < cLine) (R:Rel cx H ρ s) {l:Nat} {p:Addr × Addr} {es:List (Key × Val)} {i m:Val} {k:Key} {iv v:Value} {Q:Unit -> Shared -> Prop} {E:Value -> Shared -> Prop} (hp:ρ[l]?=some p) (hl:H[l]?=some (.dict es)) (hk:Ec i=some k) (q:es.length < lid)
    (xi:VR cx ρ s.heap i iv) (xm:VR cx ρ s.heap m v) (hQ:∀ h' tk,Full ρ s.heap ρ h' -> Rel cx (H.set l (.dict (Hq es k m))) ρ { s with heap:=h',toks:=tk } -> Q () { s with heap:=h',toks:=tk }):wpAny (model cx.prog cx.w) A (setItem (.ref p.1) iv v) Q E s:=by
  refine Ah fun G kG=>?_
  refine ex1 (R.dictAt hl hp) fun xs zz=>By zz fun hpp D rr z=>?_
  refine ex1 (Nh xi hk) fun bb zz=>As zz fun zr1 hb no=>?_;subst zr1
  refine kG ?_
  refine wpAny_setItem_heap (knd:=cellKind cx) (tupleKind_room_in1 (by exact o12 hu)) hb D (fun h' hm hs=>?_) (by rw [rr.length];exact z)
  refine Ah fun G kG=>?_
  refine ex3 D fun _ _ _ zz=>Kp zz fun _ _ _ _ ks nd=>?_
  rw [Ck] at q
  obtain ⟨F,R'⟩:=Qx (tk:=s.toks+(cellKind cx).draws [k.1,k.2]) R hp hpp hm hs (Pi ks hb) (rr.put nd xm (show VR cx ρ s.heap (.tup [.int k.1,.int k.2]) (.ref bb) from Tu hk▸xi)) (Nat.le_trans (Pj es k m) q)
  refine kG ?_
  exact hQ h' _ F R'
theorem S2 {x p i:Expr} {q:Pos} {ln:Nat}:swapsWith x (some (.Subscript p i q)) ln env=pure false:=by cases x <;> rfl
theorem P1 (G:Ground cx N A Φ l d) {o i e:ME} {p j x:Expr} {q pos:Pos} (ha:Ei ns) (hx:ck N sc ns e x=true) (hp:ck N sc ns o p=true) (hi:ck N sc ns i j=true) :
    Kz cx A l env sc ns (exec (.Assign [.Subscript p j q] x pos) env) (Fp cx.T Φ (.setitem o i e)):=by
  intro Γ H ρ s R e0 fr
  refine Ce.to (Bx.bindK (K:=fun v Q E s=>wpAny (model cx.prog cx.w) A (eval p env) (fun ov s₂=>wpAny (model cx.prog cx.w) A (eval j env) (fun iv s₃=>wpAny (model cx.prog cx.w) A (setItem ov iv v) (fun _=>Q .next) E s₃) E s₂) E s) e0 ((eok G e x env sc ns Γ hx ha e0.len).val H ρ s R ⟨e0,fr⟩) ?_ ?_ fun Q E h=>wpAny_Assign_Subscript h S2)
  · intro b v H1 ρ1 s1 _ F1 R1 e1 vr
    refine Bx.bindK (K:=fun ov Q E s=>wpAny (model cx.prog cx.w) A (eval j env) (fun iv s₃=>wpAny (model cx.prog cx.w) A (setItem ov iv v) (fun _=>Q .next) E s₃) E s) e1 ((eok G o p env sc ns Γ hp ha e1.len).val H1 ρ1 s1 R1 ⟨e1,fr.full F1⟩) ?_ ?_ (fun Q E h=>h)
    · intro b2 ov H2 ρ2 s2 _ F2 R2 e2 vo
      refine Bx.bindK (K:=fun iv Q E s=>wpAny (model cx.prog cx.w) A (setItem ov iv v) (fun _=>Q .next) E s) e2 ((eok G i j env sc ns Γ hi ha e2.len).val H2 ρ2 s2 R2 ⟨e2,(fr.full F1).full F2⟩) ?_ ?_ (fun Q E h=>h)
      · intro b3 iv H3 ρ3 s3 _ F3 R3 e3 vi
        have vo':VR cx ρ3 s3.heap b2 ov:=VR.step F3.step vo
        have vi':VR cx ρ3 s3.heap b3 iv:=vi
        have vr':VR cx ρ3 s3.heap b v:=VR.step F3.step (VR.step F2.step vr)
        unfold Fr
        cases hr:Bw b2 b3 b H3 with
        | bad=>trivial
        | exc c H4=>exact (Mi hr).elim
        | ok u H4 =>
          refine ex1 (S0 hr) fun a zz=>Ac zz fun zr1 hs=>?_;subst zr1
          refine ex1 vo'.loc_inv fun p1 zz=>Ac zz fun hp1 hr1=>?_;refine Eq.symm hr1▸?_
          rcases hs with ⟨xs,k,hl,rfl,k0,k1,rfl⟩ | ⟨es,k,hl,hk,q,rfl⟩
          · refine Ah fun G kG=>?_
            obtain ⟨t,rfl⟩:=vi'.int_inv
            refine ex2 (R3.listAt hl hp1) fun vs n zz=>By zz fun hpp g rr z=>?_
            refine kG ?_
            have z':=z
            rw [sizeLine_eq] at z'
            refine Sz g k0 (by rw [<- rr.length];exact k1) (b63 z' k1) ?_
            refine ex1 (Jg (b:=.none) (v:=.none) (ys:=xs.set k.toNat b) R3 hp1 hpp g (fun w=>w.setIfInBounds k.toNat v) (rr.setArr k.toNat vr') (by rw [List.length_set];exact z) fun _ _=>.none) fun ρ' zz=>As zz fun F R' _=>?_
            exact ⟨rfl,ρ',F.toS,R',e3.full F⟩
          · exact S1 G.u R3 hp1 hl hk q vi' vr' fun h' tk F R'=>⟨rfl,ρ3,F.toS,R',e3.full F⟩
      · exact fun _ Q E Q' E' s h k1 k2=>wpAny_mono h (fun _ _=>k1 _ _) k2
    · exact fun _ Q E Q' E' s h k1 k2=>wpAny_mono h (fun _ _ h'=>wpAny_mono h' (fun _ _=>k1 _ _) k2) k2
  · exact fun _ Q E Q' E' s h k1 k2=>wpAny_mono h (fun _ _ h'=>wpAny_mono h' (fun _ _ h2=>wpAny_mono h2 (fun _ _=>k1 _ _) k2) k2) k2
end
section
variable {cx:Cx} {N:Names} {A:Around} {Φ:Funs} {l:List Env} {d:Nat} {env:Env} {sc:Scope} {ns:List (Option Str)} {Γ:Env'} {H:Hp} {ρ ρ':Rho} {s:Shared}
theorem Zg (G:Ground cx N A Φ l d) {m:ME} {x:Expr} {pos:Pos} (ha:Ei ns) (hm:ck N sc ns m x=true) (hc:T5 m=true):Kz cx A l env sc ns (exec (.Expr x pos) env) (Fp cx.T Φ (.expr m)):=by
  intro Γ H ρ s R e0 fr
  have nc:∀ a b c,m≠.comp a b c:=fun a b c q=>by subst q;exact Cd hc
  refine Ce.to (Bx.bindK (K:=fun _ Q _ s=>Q .next s) e0 ((eok G m x env sc ns Γ hm ha e0.len).val H ρ s R ⟨e0,fr⟩) (fun b v H1 ρ1 s1 _ F1 R1 e1 vr=>⟨rfl,ρ1,FullS.refl _ _ _,R1,e1⟩) (fun _ Q E Q' E' s h k1 _=>k1 _ _ h) fun Q E h=>?_)
  refine wpAny_Expr_any h ?_ (N3 hm nc)
  unfold interactive
  rw [e0.st.fn];rfl
theorem Adr (G:Ground cx N A Φ l d) {m:MEo} {x:Option Expr} {pos:Pos} (ha:Ei ns) (hm:ckO N sc ns m x=true):Kz cx A l env sc ns (exec (.Return x pos) env) (Fp cx.T Φ (.ret m)):=by
  intro Γ H ρ s R e0 fr
  match m,x,hm with
  | .none,none,_ =>
    exact wpAny_Return_none ⟨_,ρ,rfl,FullS.refl _ _ _,R,.none,e0.st⟩
  | .some e,some x,hm =>
    exact Ce.to (Bx.bindK (K:=fun v Q _ s=>Q (.ret v) s) e0 ((eok G e x env sc ns Γ hm ha e0.len).val H ρ s R ⟨e0,fr⟩) (fun b v H1 ρ1 s1 _ F1 R1 e1 vr=>⟨v,ρ1,rfl,FullS.refl _ _ _,R1,vr,e1.st⟩) (fun _ Q E Q' E' s h k1 _=>k1 _ _ h) fun Q E h=>wpAny_Return_some h)
  | .none,some _,h=>cases (show false=true from h)
  | .some _,none,h=>cases (show false=true from h)
theorem Ads (G:Ground cx N A Φ l d) {c:ME} {t f:MSs} {x:Expr} {ts fs:List Stmt} {pos:Pos} (ha:Ei ns) (hm:ck N sc ns c x=true) (ht:Kz cx A l env sc ns (execs ts env) (execSs cx.T Φ t)) (hf:Kz cx A l env sc ns (execs fs env) (execSs cx.T Φ f)) :
    Kz cx A l env sc ns (exec (.If x ts fs pos) env) (Fp cx.T Φ (.ite c t f)):=by
  intro Γ H ρ s R e0 fr
  refine Ce.to (Bx.bindK (K:=fun b Q E s=>if b=true then wpAny (model cx.prog cx.w) A (execs ts env) Q E s else wpAny (model cx.prog cx.w) A (execs fs env) Q E s) e0 ((eok G c x env sc ns Γ hm ha e0.len).tru H ρ s R ⟨e0,fr⟩) ?_ ?_ fun Q E h=>wpAny_If h)
  · intro b b' H1 ρ1 s1 _ F1 R1 e1 hb
    have hb':b'=b:=hb
    refine hb'▸?_
    cases b' with
    | true=>exact (Ce.of (ht Γ H1 ρ1 s1 R1 e1 (fr.full F1))).mono fun Q E h=>h
    | false=>exact (Ce.of (hf Γ H1 ρ1 s1 R1 e1 (fr.full F1))).mono fun Q E h=>by simpa using h
  · intro b Q E Q' E' s h k1 k2
    cases b
    · simp only [Bool.false_eq_true,if_false] at h ⊢;exact wpAny_mono h k1 k2
    · simp only [if_true] at h ⊢;exact wpAny_mono h k1 k2
set_option maxHeartbeats 4000000 in
mutual
theorem sok (G:Ground cx N A Φ (env :: l) d) (ha:Ei ns) (hef:env.frame=some env.locals):∀ (m:MS) (st:Stmt),ckS N sc ns m st=true -> Kz cx A (env :: l) env sc ns (exec st env) (Fp cx.T Φ m)
  | .expr e,st,h=>by
    obtain ⟨t,h⟩:=Ab h
    rw [t.2]
    exact Zg G ha (an1 h) (an2 h)
  | .assign i e,st,h=>by
    obtain ⟨t,h⟩:=Ab h
    rw [t.2]
    exact Sw G ha (an1 h) (an2 h)
  | .setattr o n e,st,h=>by
    obtain ⟨t,h⟩:=Ab h
    rw [t.2]
    exact P0 G ha (an1 (an1 h)) (an2 (an1 h)) (an2 h)
  | .setitem o i e,st,h=>by
    obtain ⟨t,h⟩:=Ab h
    rw [t.2]
    exact P1 G ha (an1 (an1 h)) (an2 (an1 h)) (an2 h)
  | .ret e,st,h=>by
    obtain ⟨t,h⟩:=Ab h
    rw [t.2]
    exact Adr G ha h
  | .ite c t f,st,h=>by
    obtain ⟨p,h⟩:=Ab h
    rw [p.2]
    exact Ads G ha (an1 (an1 h)) (soks G ha hef t p.1.2.1 (an2 (an1 h))) (soks G ha hef f p.1.2.2.1 (an2 h))
  | .each i it b,st,h=>by
    obtain ⟨t,h⟩:=Ab h
    rw [t.2]
    exact Zc G.room.hh G.frames ha (an1 (an1 (an1 h))) (an2 (an1 h)) (fun Γ hΓ=>eok G it t.1.2.2.1 env sc ns Γ (an2 (an1 (an1 h))) ha hΓ) (soks G ha hef b t.1.2.2.2.1 (an2 h))
  | .eachEnum i j a body,st,h=>by
    obtain ⟨t,h⟩:=Ab h
    rw [t.2]
    obtain ⟨u,h4⟩:=Ab (an2 h)
    rw [u.2]
    exact N2 G.base G.room.hh G.frames ha (an1 (an1 (an1 h))) (an2 (an1 (an1 h))) (an1 (an1 h4)) (of_decide_eq_true (an2 (an1 h4))) (B0 (an2 h4)) (fun Γ hΓ=>eok G a u.1.2.2.1 env sc ns Γ (an2 h4) ha hΓ) (soks G ha hef body t.1.2.2.1 (an2 (an1 h)))
  | .raise c msg,st,h=>fun Γ H ρ s R e0 fr=>trivial
theorem soks (G:Ground cx N A Φ (env :: l) d) (ha:Ei ns) (hef:env.frame=some env.locals):∀ (m:MSs) (sts:List Stmt),ckSs N sc ns m sts=true -> Kz cx A (env :: l) env sc ns (execs sts env) (execSs cx.T Φ m)
  | .nil,[],_=>by
    intro Γ H ρ s R e0 fr
    exact wpAny_execs_nil ⟨rfl,ρ,FullS.refl _ _ _,R,e0⟩
  | .nil,_ :: _,h=>by cases (show false=true from h)
  | .cons _ _,[],h=>by cases (show false=true from h)
  | .cons m ms,st :: sts,h=>by
    have h:=And.intro (an1 h) (an2 h)
    intro Γ H ρ s R e0 fr
    exact Zb e0 fr (sok G ha hef m st h.1 Γ H ρ s R e0 fr) (soks G ha hef ms sts h.2)
end
theorem Adt {d:Nat} (B:Base cx N) (defs:∀ (f:Nat) (a:Addr),cx.fns[f]?=some a -> ∃ g,cx.T.funs[f]?=some g) {Φ:Funs} (hΦ:Gl cx Φ d):Aa0 cx N Φ d :=
  fun body stmts env sc ns A l hck ha room hfr hef=>soks (Φ:=Φ) ⟨B,room,hfr,hΦ,defs⟩ ha hef body stmts hck
theorem Vl (B:Base cx N) (defs:∀ (f:Nat) (a:Addr),cx.fns[f]?=some a -> ∃ g,cx.T.funs[f]?=some g):∀ d,Gl cx (Ag cx.T d) d
  | 0=>fun k a args vals A l _ _ _ H ρ s R p=>trivial
  | d+1=>Gl.step B (Adt B defs (Vl B defs d))
end
end Mine.Internal
namespace Mine.Internal
open PySem PySem.W.X
noncomputable def F7 (a b:Value):Bool:=decide (a=b)
theorem Da {a b:Value} (h:F7 a b=true):a=b:=of_decide_eq_true h
noncomputable def Agz:Value -> Option Int
  | .int b _=>some b
  | _=>none
theorem Zh {w:Value} {a:Int} (h:Agz w=some a):∃ t,w=.int a t:=by
  cases w with
  | int b t=>cases h;exact ⟨t,rfl⟩
  | _=>exact Aa h
noncomputable def Adu:Value -> Option Str
  | .str b _=>some b
  | _=>none
theorem Zi {w:Value} {a:Str} (h:Adu w=some a):∃ t,w=.str a t:=by
  cases w with
  | str b t=>cases h;exact ⟨t,rfl⟩
  | _=>exact Aa h
noncomputable def Ag0 (v:Val) (w:Value):Bool:=match v with
  | .int a=>decide (Agz w=some a)
  | .str a=>decide (Adu w=some a) && decide (a.length <= 1000)
  | _=>false
theorem Zj {cx:Cx} {ρ:Rho} {h:Heap} {v:Val} {w:Value} (x:Ag0 v w=true):VR cx ρ h v w:=by
  cases v with
  | int a =>
    obtain ⟨t,hr0⟩:=Zh (of_decide_eq_true x);refine Eq.symm hr0▸?_
    exact .int _ _
  | str a =>
    have x:(decide (Adu w=some a) && decide (a.length <= 1000))=true:=x
    obtain ⟨t,hr1⟩:=Zi (of_decide_eq_true (an1 x));refine Eq.symm hr1▸?_
    exact .str _ _ (Nat.le_trans (of_decide_eq_true (an2 x)) (by skip;decide))
  | _=>exact Cd x
theorem Bq {α:Type} {o:Option α} {f:α -> Bool} (h:Be o f=true):∃ a,o=some a /\ f a=true:=by
  cases o with
  | none=>exact Cd h
  | some a=>exact ⟨a,rfl,h⟩
noncomputable def Ak5 (v:Value):Option { a:Addr // v=.ref a }:=match v with
  | .ref a=>some ⟨a,rfl⟩
  | _=>none
noncomputable def dVS (v:Value):Option { p:Str × Tok // v=.str p.1 p.2 }:=match v with
  | .str a b=>some ⟨(a,b),rfl⟩
  | _=>none
noncomputable def Ati (d:Data):Option { p:Array Value // d=.fields p }:=match d with
  | .fields p=>some ⟨p,rfl⟩
  | _=>none
noncomputable def Ak6 (d:Data):Option { p:FuncData // d=.func p }:=match d with
  | .func p=>some ⟨p,rfl⟩
  | _=>none
noncomputable def Atj (d:Data):Option { p:ClassData // d=.cls p }:=match d with
  | .cls p=>some ⟨p,rfl⟩
  | _=>none
noncomputable def Ak7 (d:Data):Option { p:Array DictEntry × Nat // d=.dict p.1 p.2 }:=match d with
  | .dict p q=>some ⟨(p,q),rfl⟩
  | _=>none
noncomputable def Atk (d:FuncBody):Option { p:List Stmt // d=.stmts p }:=match d with
  | .stmts p=>some ⟨p,rfl⟩
  | _=>none
noncomputable def Aa6 (t:Addr -> Option Obj) (c:Value) (q:Str):Bool :=
  Be (Ak5 c) fun a=>Be (t a.1) fun o=>Be (Ati o.data) fun vs=>Be (vs.1[1]?:Option Value) fun x=>Be (dVS x) fun y=>decide (y.1.1=q)
noncomputable def Ai9 (N:Names) (t:Addr -> Option Obj) (a:Nat) (f:MFun) (ns:List Str):Bool :=
  Be (t a) fun o=>Be (Ak6 o.data) fun p=>Be (Atk p.1.body) fun body=>ckF N f ns p.1.params body.1 p.1.scope && (p.1.closure.isEmpty && (Nat.beq p.1.globals mainGlobals && (Nat.beq p.1.builtins builtinsNs && (F7 p.1.defaults .none && (F7 p.1.kwdefaults .none && (Aa6 t p.1.code p.1.qualname && F7 o.cls (.type "function")))))))
noncomputable def Adv (N:Names) (t:Addr -> Option Obj):List Addr -> List MFun -> List (List Str) -> Bool
  | [],[],[]=>true
  | a :: as,f :: fs,ns :: nss=>Ai9 N t a f ns && Adv N t as fs nss
  | _,_,_=>false
noncomputable def Aja (es:Array DictEntry) (N:Names) (T:Tab) (cls:List Value) (fns:List Addr):Bool :=
  (N.funs.all fun p=>Be fns[p.2]? fun a=>Be (nsFind es p.1) fun v=>F7 (.ref a) v) &&
  ((N.globs.all fun p=>Be T.globs[p.2]? fun m=>Be (nsFind es p.1) fun v=>Ag0 m v) &&
  ((N.clss.all fun p=>Be cls[p.2]? fun c=>(Be (nsFind es p.1) fun v=>F7 c v) || ((nsFind es p.1).isNone && Be (bootBuiltins p.1) fun v=>F7 c v && !decide (p.1=("__name__":Str)))) &&
  (Ep.all fun p=>(nsFind es p.1).isNone && (!decide (p.1=("__name__":Str)) && Be (bootBuiltins p.1) fun v=>F7 p.2 v))))
noncomputable def Ajb (t:Addr -> Option Obj) (a:Nat):Bool:=Be (t a) fun o=>F7 o.cls (.type "function") && (Ak6 o.data).isSome
noncomputable def Vm (v:Value):Bool:=(dVS v).isSome
theorem Vn {v:Value} (h:Vm v=true):∃ a b,v=.str a b:=by
  obtain ⟨x,_⟩:=Option.isSome_iff_exists.mp h
  exact ⟨_,_,x.2⟩
noncomputable def Adw (o:Option Value):Bool:=Be o fun v=>F7 v (.builtin "object.__new__")
noncomputable def Ag1 (y:Str):Bool:=Be (fastLookup "object" y) fun r=>r.isNone
noncomputable def Vo (y:Str):Bool:=(fastLookup "object" y).isSome
noncomputable def Ajc (t:Addr -> Option Obj) (N:Names) (T:Tab) (attrs:List Str) (fns:List Addr) (c:Nat) (es:Array DictEntry):Bool :=
  (es.toList.all fun e=>Vm e.key) && ((nsFind es "__getattribute__").isNone && ((nsFind es "__getattr__").isNone && ((nsFind es "__setattr__").isNone &&
  ((attrs.all fun y=>(nsFind es y).isNone && Ag1 y) &&
  (N.meths.all fun p=>(T.meth c p.2).isNone || Be (T.meth c p.2) fun k=>Be fns[k]? fun fa=>Be (nsFind es p.1) fun v=>F7 (.ref fa) v && (Ajb t fa && (!(attrs.contains p.1) && Vo p.1)))))))
noncomputable def Aa7 (l:List (Option Value)):Option { p:Option Value × Option Value × Option Value × Option Value × Option Value × Option Value // l=[p.1,p.2.1,p.2.2.1,p.2.2.2.1,p.2.2.2.2.1,p.2.2.2.2.2] }:=match l with
  | [a,b,c,d,e,f]=>some ⟨(a,b,c,d,e,f),rfl⟩
  | _=>none
noncomputable def Adx (t:Addr -> Option Obj) (N:Names) (T:Tab) (attrs:List Str) (fns:List Addr) (c:Nat) (v:Value):Bool :=
  Be (Ak5 v) fun C=>Be (t C.1) fun o=>Be (Atj o.data) fun p=>F7 o.cls (.type "type") && (decide (p.1.mro=[.ref C.1,.type "object"]) && (p.1.hasDict && (!p.1.abstract && (!p.1.hasDel && ((Be (Aa7 o.slots.toList) fun q=>Adw q.1.2.2.2.2.1) && Be (t p.1.ns) fun on=>Be (Ak7 on.data) fun es=>Ajc t N T attrs fns c es.1.1)))))
noncomputable def Lf (t:Addr -> Option Obj) (N:Names) (T:Tab) (attrs:List Str) (fns:List Addr):Nat -> List Value -> Bool
  | _,[]=>true
  | c,v :: vs=>((T.meth c 0).isNone || Adx t N T attrs fns c v) && Lf t N T attrs fns (c+1) vs
noncomputable def Mj (N:Names) (attrs:List Str):Bool :=
  (N.attrs.all fun p=>Be attrs[p.2]? fun y=>decide (y=p.1)) && (Hs (attrs.map some) && (decide (attrs.length <= 1000) && Do N.meths "__init__" 0))
noncomputable def Vp (t:Addr -> Option Obj) (N:Names) (T:Tab) (cls:List Value) (fns:List Addr) (nss:List (List Str)):Bool :=
  (Be (t mainGlobals) fun o=>Be (Ak7 o.data) fun es=>Aja es.1.1 N T cls fns) && Adv N t fns T.funs nss
noncomputable def Has (h:Heap) (t:Addr -> Option Obj):Prop:=∀ a o,t a=some o -> h.get? a=some o
theorem Jm {h:Heap} {t:Addr -> Option Obj} (Z:Has h t) {a:Nat} {o:Obj} (e:t a=some o):h.get? a=some o:=Z a o e
set_option tactic.hygienic true in
theorem S3 {h:Heap} {t:Addr -> Option Obj} (Z:Has h t) {c:Value} {q:Str} (x:Aa6 t c q=true):h.CodeRec c q:=by
  obtain ⟨a,x⟩:=Ab x
  refine ex1 (Bq x) fun o zz=>Ac zz fun e x=>?_
  obtain ⟨vs,x⟩:=Ab x
  refine ex1 (Bq x) fun v zz=>Ac zz fun hv x=>?_
  obtain ⟨y,x⟩:=Ab x
  exact of_decide_eq_true x▸⟨_,o,vs.1,y.1.2,a.2,Jm Z e,vs.2,hv.trans (congrArg some y.2)⟩
theorem Ady {cx:Cx} {N:Names} {t:Addr -> Option Obj} (Z:Has cx.h₀ t) {a:Nat} {f:MFun} {ns:List Str} (x:Ai9 N t a f ns=true):FnOk cx N a f:=by
  refine ex1 (Bq x) fun o zz=>Ac zz fun e x=>?_
  obtain ⟨p,x⟩:=Ab x
  obtain ⟨b,x⟩:=Ab x
  have x2:=an2 x
  have x3:=an2 x2
  have x4:=an2 x3
  have x5:=an2 x4
  have x6:=an2 x5
  have x7:=an2 x6
  exact ⟨o,p.1,b.1,ns,Jm Z e,Da (an2 x7),p.2,S3 Z (an1 x7),b.2,List.isEmpty_iff.mp (an1 x2),Nat.eq_of_beq_eq_true (an1 x3),Nat.eq_of_beq_eq_true (an1 x4),Da (an1 x5),Da (an1 x6),an1 x⟩
theorem N4 {N:Names} {t:Addr -> Option Obj}:∀ {fns:List Addr} {fs:List MFun} {nss:List (List Str)},Adv N t fns fs nss=true -> fns.length=fs.length /\ ∀ (k:Nat) (a:Addr) (f:MFun),fns[k]?=some a -> fs[k]?=some f -> ∃ ns,Ai9 N t a f ns=true
  | [],[],[],_=>⟨rfl,fun k a f h _=>by simp at h⟩
  | a :: as,f :: fs,ns :: nss,h=>by
    have h:=And.intro (an1 h) (an2 h)
    obtain ⟨l,r⟩:=N4 h.2
    refine ⟨by simp [l],fun k b g h1 h2=>?_⟩
    cases k with
    | zero=>simp at h1 h2;subst h1 h2;exact ⟨ns,h.1⟩
    | succ k=>exact r k b g (by simpa using h1) (by simpa using h2)
  | [],[],_ :: _,h=>by cases (show false=true from h)
  | [],_ :: _,_,h=>by cases (show false=true from h)
  | _ :: _,[],_,h=>by cases (show false=true from h)
  | _ :: _,_ :: _,[],h=>by cases (show false=true from h)
theorem Zk {y:Str} (h:Ag1 y=true):typeLookup (.type "object") y=pure none:=by
  refine ex1 (Bq h) fun r zz=>Ac zz fun e h=>?_
  rw [typeLookup_type,builtinLookup_eq_fast,e,Option.isNone_iff_eq_none.mp h]
theorem Vq {y:Str} (h:Vo y=true):∃ r,typeLookup (.type "object") y=pure r:=by
  obtain ⟨r,e⟩:=Option.isSome_iff_exists.mp h
  exact ⟨r,by rw [typeLookup_type,builtinLookup_eq_fast,e]⟩
theorem Adz {h:Heap} {t:Addr -> Option Obj} (Z:Has h t) {a:Nat} (x:Ajb t a=true):∃ o fd,h.get? a=some o /\ o.cls=.type "function" /\ o.data=.func fd:=by
  refine ex1 (Bq x) fun o zz=>Ac zz fun e x=>?_
  obtain ⟨p,_⟩:=Option.isSome_iff_exists.mp (an2 x)
  exact ⟨o,p.1,Jm Z e,Da (an1 x),p.2⟩
theorem Ag2 {o:Obj} {cd:ClassData} {C:Addr} {bm:List Value} {k0 k1 k2 k3 k5:Option Value} {nw:String} (x1:o.cls=.type "type") (hd:o.data=.cls cd) (x2:cd.mro=.ref C :: bm) (x5:cd.hasDel=false) (hp:o.slots.toList=[k0,k1,k2,k3,some (.builtin nw),k5]) :
    o=excClassObj cd.name cd.qualname C cd.ns cd.bases bm cd.hasDict cd.slotNames cd.subclasses cd.abstract cd.collection o.dict k0 k1 k2 k3 k5 nw:=by
  obtain ⟨oc,od,odata,oslots⟩:=o
  obtain ⟨cn,cb,cm,cns,cq,chd,csn,csub,cab,ccol,cdel⟩:=cd
  cases x1;cases hd;cases x2;cases x5
  exact congrArg _ (Array.toList_inj.mp hp)
theorem Ad0 {l:List (Option Value)} {g:Option Value -> Bool} {v:Value} (hg:∀ o,g o=true -> o=some v) (x:(Be (Aa7 l) fun q=>g q.1.2.2.2.2.1)=true):∃ k0 k1 k2 k3 k5,l=[k0,k1,k2,k3,some v,k5]:=by
  obtain ⟨q,x⟩:=Ab x
  exact ⟨q.1.1,q.1.2.1,q.1.2.2.1,q.1.2.2.2.1,q.1.2.2.2.2.2,hg _ x▸q.2⟩
theorem Ad1 {o:Option Value} {v:Value} (x:(Be o fun w=>F7 w v)=true):o=some v:=by
  refine ex1 (Bq x) fun w zz=>Ac zz fun e x=>?_
  exact e.trans (congrArg some (Da x))
theorem Ad2 {es:Array DictEntry} (x:(es.toList.all fun e=>Vm e.key)=true):∀ e∈es,∃ a b,e.key=.str a b:=fun e he=>Vn (List.all_eq_true.mp x e (Array.mem_toList_iff.mpr he))
theorem Zl {cx:Cx} {N:Names} {t:Addr -> Option Obj} (Z:Has cx.h₀ t) {c:Nat} {es:Array DictEntry} {z:Str} {m k:Nat} (x:(N.meths.all fun p=>(cx.T.meth c p.2).isNone || Be (cx.T.meth c p.2) fun k=>Be cx.fns[k]? fun fa=>Be (nsFind es p.1) fun v=>F7 (.ref fa) v && (Ajb t fa && (!(cx.attrs.contains p.1) && Vo p.1)))=true) (hz:N.meths.lookup z=some m) (hk:cx.T.meth c m=some k) :
    ∃ fa fo fd,cx.fns[k]?=some fa /\ nsFind es z=some (.ref fa) /\ cx.h₀.get? fa=some fo /\ fo.cls=.type "function" /\ fo.data=.func fd /\ (∀ n:Nat,cx.attrs[n]?≠some z) /\ ∃ r,typeLookup (.type "object") z=pure r:=by
  have x:=List.all_eq_true.mp x (z,m) (mem_of_lookup hz)
  rcases (Bool.or_eq_true _ _).mp x with q | q
  · cases hk.symm.trans (Option.isNone_iff_eq_none.mp q)
  · refine ex1 (Bq q) fun k' zz=>Ac zz fun e q1=>?_
    cases hk.symm.trans e
    refine ex1 (Bq q1) fun fa zz=>Ac zz fun hf q2=>?_
    refine ex1 (Bq q2) fun v zz=>Ac zz fun hv q=>?_
    refine ex2 (Adz Z (an1 (an2 q))) fun fo fd zz=>As zz fun f1 f2 f3=>?_
    exact ⟨fa,fo,fd,hf,hv.trans (congrArg some (Da (an1 q)).symm),f1,f2,f3,fun n hn=>of_decide_eq_false ((List.contains_eq_mem z cx.attrs).symm.trans (not_not (an1 (an2 (an2 q))))) (List.mem_of_getElem? hn),Vq (an2 (an2 (an2 q)))⟩
theorem Zm {cx:Cx} {N:Names} {t:Addr -> Option Obj} (Z:Has cx.h₀ t) {c:Nat} {v:Value} (x:Adx t N cx.T cx.attrs cx.fns c v=true):∃ C,v=.ref C /\ ClsOk cx N c C:=by
  obtain ⟨C,x⟩:=Ab x
  refine ex1 (Bq x) fun o zz=>Ac zz fun e x=>?_
  obtain ⟨p,x⟩:=Ab x
  have x2:=an2 x
  have x3:=an2 x2
  have x4:=an2 x3
  have x5:=an2 x4
  have x6:=an2 x5
  refine ex1 (Bq (an2 x6)) fun on zz=>Ac zz fun en x7=>?_
  obtain ⟨es,x7⟩:=Ab x7
  refine ex5 (Ad0 (fun _=>Ad1) (an1 x6)) fun k0 k1 k2 k3 k5 hp=>?_
  have ho:=Ag2 (Da (an1 x)) p.2 (of_decide_eq_true (an1 x2)) (not_not (an1 x5)) hp
  rw [an1 x3,not_not (an1 x4)] at ho
  have y2:=an2 x7
  have y3:=an2 y2
  have y4:=an2 y3
  have y5:=an2 y4
  exact ⟨C.1,C.2,p.1.name,p.1.qualname,p.1.ns,p.1.bases,p.1.slotNames,p.1.subclasses,p.1.collection,o.dict,k0,k1,k2,k3,k5,fun z=>nsFind es.1.1 z,ho▸Jm Z e,⟨on,es.1.1,es.1.2,Jm Z en,es.2,Ad2 (an1 x7),fun _=>rfl⟩,Option.isNone_iff_eq_none.mp (an1 y2),Option.isNone_iff_eq_none.mp (an1 y3),Option.isNone_iff_eq_none.mp (an1 y4),
    fun n z hz=>have w:=List.all_eq_true.mp (an1 y5) z (List.mem_of_getElem? hz);⟨Option.isNone_iff_eq_none.mp (an1 w),Zk (an2 w)⟩,fun z m k hz hk=>Zl Z (an2 y5) hz hk⟩
theorem Lg {N:Names} {T:Tab} {t:Addr -> Option Obj} {attrs:List Str} {fns:List Addr}:∀ {l:List Value} {c i:Nat} {v:Value},Lf t N T attrs fns c l=true -> l[i]?=some v -> (T.meth (c+i) 0).isSome=true -> Adx t N T attrs fns (c+i) v=true
  | [],_,i,_,_,h,_=>by simp at h
  | w :: ws,c,i,v,x,h,hm=>by
    have x:=And.intro (Bool.or_eq_true _ _ |>.mp (an1 x)) (an2 x)
    cases i with
    | zero =>
      simp at h;subst h
      rcases x.1 with q | q
      · rw [Nat.add_zero,Option.isSome_iff_ne_none] at hm
        exact absurd (Option.isNone_iff_eq_none.mp q) hm
      · exact q
    | succ i =>
      have e:c+(i+1)=c+1+i:=by exact Aoj
      rw [e] at hm ⊢
      exact Lg x.2 (by simpa using h) hm
theorem S4 {cx:Cx} {N:Names} {t:Addr -> Option Obj} (Z:Has cx.h₀ t) (h1:Lf t N cx.T cx.attrs cx.fns 0 cx.cls=true) (h2:Mj N cx.attrs=true):ClsBase cx N:=by
  have a3:=of_decide_eq_true (an1 (an2 (an2 h2)))
  have get:∀ (c:Nat) (v:Value),cx.cls[c]?=some v -> (cx.T.meth c 0).isSome=true -> ∃ C,v=.ref C /\ ClsOk cx N c C:=fun c v hc hm=>by
    have:=Lg h1 hc (by rw [Nat.zero_add];exact hm)
    rw [Nat.zero_add] at this
    exact Zm Z this
  refine ⟨fun y n h=>?_,fun i j y hi hj=>?_,by rw [sizeLine_eq];exact o30 a3,C8 (an2 (an2 (an2 h2))),fun c v hc hm=>?_,fun c C hc hm=>?_⟩
  · refine ex1 (Bq (List.all_eq_true.mp (an1 h2) (y,n) (mem_of_lookup h))) fun z zz=>Ac zz fun hz q=>?_
    exact hz.trans (congrArg some (of_decide_eq_true q))
  · exact Fh (an1 (an2 h2)) i j y (by rw [List.getElem?_map,hi];rfl) (by rw [List.getElem?_map,hj];rfl)
  · refine ex1 (get c v hc hm) fun C zz=>Ac zz fun e _=>?_
    exact ⟨C,e⟩
  · refine ex1 (get c (.ref C) hc hm) fun C' zz=>Ac zz fun e k=>?_
    cases e;exact k
theorem Hg {α:Type} {l:List (Str × α)} {p:Str × α -> Bool} (h:l.all p=true) {x:Str} {k:α} (e:l.lookup x=some k):p (x,k)=true:=List.all_eq_true.mp h _ (mem_of_lookup e)
theorem P2 {o:Option Value} {v:Value} (x:(Be o fun w=>F7 v w)=true):o=some v:=by
  refine ex1 (Bq x) fun w zz=>Ac zz fun e x=>?_
  exact e.trans (congrArg some (Da x).symm)
theorem Ad3 {cx:Cx} {N:Names} {t:Addr -> Option Obj} {nss:List (List Str)} {mg mb:Str -> Option Value} (Z:Has cx.h₀ t) (g:cx.h₀.Ns mainGlobals mg) (b:cx.h₀.Ns builtinsNs mb) (hb:∀ x:Str,x≠"__name__" -> mb x=bootBuiltins x) (lim:cx.h₀.NoLimit)
    (ok:Vp t N cx.T cx.cls cx.fns nss=true) (okc:Lf t N cx.T cx.attrs cx.fns 0 cx.cls=true) (oka:Mj N cx.attrs=true):Base cx N /\ ∀ (f:Nat) (a:Addr),cx.fns[f]?=some a -> ∃ g,cx.T.funs[f]?=some g:=by
  obtain ⟨hlen,hfn⟩:=N4 (an2 ok)
  refine ex1 (Bq (an1 ok)) fun o zz=>Ac zz fun e ok=>?_
  obtain ⟨es,ok⟩:=Ab ok
  have hmg:∀ x,mg x=nsFind es.1.1 x:=by
    refine Ah fun G kG=>?_
    refine ex3 g fun o' es' ep' zz=>By zz fun e' d' _ h'=>?_
    refine kG ?_
    cases (Jm Z e).symm.trans e'
    cases es.2.symm.trans d'
    exact fun x=>(h' x).symm
  have c2:=an2 ok
  have c3:=an2 c2
  refine ⟨⟨⟨mg,mb,g,b,fun x k h=>?_,fun x k h=>?_,fun x c h=>?_,fun p hp=>?_⟩,lim,fun k a f h1 h2=>?_,S4 Z okc oka⟩,fun f a h=>?_⟩
  · refine ex1 (Bq (Hg (an1 ok) h)) fun a zz=>Ac zz fun e q=>?_
    exact ⟨a,e,(hmg x).trans (P2 q)⟩
  · refine ex1 (Bq (Hg (an1 c2) h)) fun m zz=>Ac zz fun e q=>?_
    refine ex1 (Bq q) fun v zz=>Ac zz fun e' q=>?_
    exact ⟨m,v,e,(hmg x).trans e',fun ρ h=>Zj q⟩
  · refine ex1 (Bq (Hg (an1 c3) h)) fun c' zz=>Ac zz fun e q=>?_
    refine ⟨c',e,((Bool.or_eq_true _ _).mp q).imp (fun q=>(hmg x).trans (P2 q)) fun q=>⟨(hmg x).trans (Option.isNone_iff_eq_none.mp (an1 q)),?_⟩⟩
    refine ex1 (Bq (an2 q)) fun v zz=>Ac zz fun e' q=>?_
    exact (hb _ (of_decide_eq_false (not_not (an2 q)))).trans (e'.trans (congrArg some (Da (an1 q)).symm))
  · have q:=List.all_eq_true.mp (an2 c3) p hp
    exact ⟨(hmg _).trans (Option.isNone_iff_eq_none.mp (an1 q)),(hb _ (of_decide_eq_false (not_not (an1 (an2 q))))).trans (P2 (an2 (an2 q)))⟩
  · obtain ⟨ns,h⟩:=hfn k a f h1 h2
    exact Ady Z h
  · exact ⟨_,List.getElem?_eq_getElem (hlen▸(List.getElem?_eq_some_iff.mp h).1)⟩
theorem Ad4 {h:Heap} {a:Addr} {m m':Str -> Option Value} (x:h.Ns a m) (y:h.Ns a m') (n:Str):m n=m' n:=by
  refine Ah fun G kG=>?_
  refine ex3 x fun o es ep zz=>By zz fun e d _ f=>?_
  refine ex3 y fun o' es' ep' zz=>By zz fun e' d' _ f'=>?_
  refine kG ?_
  rw [e] at e';cases e'
  rw [d] at d';cases d'
  rw [<- f n,f' n]
theorem S5 {cx:Cx} {ρ:Rho} {h:Heap} {vs:List Value} {ns:List Int} (x:PyProof.Rows.IntsAre vs ns):VRs cx ρ h (ns.map .int) vs:=by
  induction x with
  | nil=>exact .nil
  | cons n tk r ih=>exact .cons (.int n tk) ih
theorem finish {prog:Program} {w:World} {N:Names} {t:Addr -> Option Obj} {T:Tab} {cls:List Value} {attrs:List Str} {fns:List Addr} {nss:List (List Str)} {s₁:Shared} {mg mb:Str -> Option Value} {ns:List Int} {vs:List Value} {fa a:Addr} {k d:Nat} {Q:Value -> Shared -> Prop} {E:Value -> Shared -> Prop}
    (Z:Has s₁.heap t) (g:s₁.heap.Ns mainGlobals mg) (b:s₁.heap.Ns builtinsNs mb) (hb:∀ x:Str,x≠"__name__" -> mb x=bootBuiltins x) (lim:s₁.heap.NoLimit) (ok:Vp t N T cls fns nss=true) (okc:Lf t N T attrs fns 0 cls=true) (oka:Mj N attrs=true) (hsys:(t sysModules).isSome=true)
    (hobj:s₁.heap.get? a=some (A8 vs 0)) (hI:PyProof.Rows.IntsAre vs ns) (hlen:ns.length <= 63) (hf:mg "law"=some (.ref fa)) (hk:N.funs.lookup ("law":Str)=some k) (room:Room callerA d)
    (hlaw:∃ H',Ag T d k [.script ns] []=.ok (.bool true) H')
    (kq:∀ s',(∀ b o,s₁.heap.get? b=some o -> s'.heap.get? b=some o) -> s'.os=s₁.os -> s'.gens=s₁.gens -> Q (.bool true) s') :
    wpAny (model prog w) callerA (call (.ref fa) [.ref a]) Q E s₁:=by
  refine Ah fun G kG=>?_
  obtain ⟨B,defs⟩:=Ad3 (cx:=⟨prog,w,T,s₁,cls,attrs,fns⟩) (N:=N) (nss:=nss) Z g b hb lim ok okc oka
  refine ex2 B.ns fun mg' mb' zz=>By zz fun g' b' q _=>?_
  refine ex1 (q "law" k hk) fun a' zz=>Ac zz fun ha' hx=>?_
  refine kG ?_
  have e:fa=a':=by
    have:=Ad4 g g' "law"
    rw [hf,hx] at this
    cases this;rfl
  subst e
  obtain ⟨o1,e1⟩:=Option.isSome_iff_exists.mp hsys
  have R:Rel ⟨prog,w,T,s₁,cls,attrs,fns⟩ [] [] s₁ :=
    ⟨rfl,fun l o p h _=>by simp at h,fun i j p q _ h _=>by simp at h,fun p hp=>by simp at hp,fun _ _ e=>e,⟨o1,Jm Z e1⟩,⟨s₁.heap,s₁.toks,rfl⟩⟩
  obtain ⟨H',hH⟩:=hlaw
  have x:=Vl B defs d k fa [.script ns] [.ref a] callerA [] ha' room.toF rfl [] [] s₁ R ⟨.cons (.script hobj (by rw [sizeLine_eq];exact Aok hlen) (S5 hI)) .nil,fun en he=>by cases he⟩
  change Ay _ callerA (Ag T d k [.script ns] []) _ _ _ _ at x
  rw [hH] at x
  refine wpAny_mono x (fun v s' ⟨ρ',F,R',vr⟩=>?_) fun _ _ q=>q.elim
  have vr':VR ⟨prog,w,T,s₁,cls,attrs,fns⟩ ρ' s'.heap (.bool true) v:=vr
  cases vr'
  refine ex2 R'.rest fun h tk e=>?_
  exact kq s' R'.base (by rw [e]) (by rw [e])
end Mine.Internal
namespace Mine.Internal
open PySem PySem.W PySem.Calls
noncomputable def Jn (tb:String -> Option Builtin) (p:Program) (w:World) (n₀:Nat) (ann:Option Value):Nat -> SharedT -> Thread -> Option SharedT
  | 0,_,_=>none
  | n+1,s,t=>match through t with
    | true=>some s
    | false=>match stepOk n₀ ann t with
      | false=>none
      | true=>match stepT (denote tb) p w s t with
        | some (s',t')=>Jn tb p w n₀ ann n s' t'
        | none=>none
theorem H0 {tb:String -> Option Builtin} {p:Program} {w:World} {n₀:Nat} {ann:Option Value} {n:Nat} {s:SharedT} {t:Thread}:Jn tb p w n₀ ann (n+1) s t=(match through t with
    | true=>some s
    | false=>match stepOk n₀ ann t with
      | false=>none
      | true=>match stepT (denote tb) p w s t with
        | some (s',t')=>Jn tb p w n₀ ann n s' t'
        | none=>none):=rfl
theorem Lh {tb:String -> Option Builtin} {p:Program} {w:World} {n₀:Nat} {ann:Option Value}:∀ {n:Nat} {s s':SharedT} {t:Thread},Jn tb p w n₀ ann n s t=some s' -> topRun tb p w n₀ ann n s.abs t=some s'.abs
  | 0,_,_,_,h=>by cases h
  | n+1,s,s',t,h=>by
    rw [H0] at h
    unfold topRun
    cases ht:through t with
    | true=>rw [ht] at h;cases h;rfl
    | false =>
      rw [ht] at h
      cases hk:stepOk n₀ ann t with
      | false=>rw [hk] at h;cases h
      | true =>
        rw [hk] at h
        cases hs:stepT (denote tb) p w s t with
        | none=>rw [hs] at h;exact nomatch h
        | some r=>obtain ⟨s₂,t₂⟩:=r;rw [hs] at h;rw [stepT_spec hs];exact Lh h
noncomputable def P3 (p:Program) (w:World) (n₀:Nat) (ann:Option Value) (n:Nat):SharedT -> Thread -> Option SharedT :=
  @Nat.rec (fun _=>SharedT -> Thread -> Option SharedT) (fun _ _=>none) (fun _ ih s t=>@Bool.rec (fun _=>Option SharedT)
    (@Bool.rec (fun _=>Option SharedT) none (@Option.rec (SharedT × Thread) (fun _=>Option SharedT) none (fun r=>ih r.1 r.2) (PySem.W.Fast.tw10156331382660048174 (PySem.W.Fast.tw11892475500146522536 treeTable) p w s t)) (PySem.W.Fast.tw6613529449190102663 n₀ ann t)) (some s) (through t)) n
theorem Li {p:Program} {w:World} {n₀:Nat} {ann:Option Value}:∀ (n:Nat) (s:SharedT) (t:Thread),P3 p w n₀ ann n s t=Jn treeTable p w n₀ ann n s t
  | 0,_,_=>rfl
  | n+1,s,t=>by
    show @Bool.rec (fun _=>Option SharedT) (@Bool.rec (fun _=>Option SharedT) none (@Option.rec (SharedT × Thread) (fun _=>Option SharedT) none (fun r=>P3 p w n₀ ann n r.1 r.2) (PySem.W.Fast.tw10156331382660048174 (PySem.W.Fast.tw11892475500146522536 treeTable) p w s t)) (PySem.W.Fast.tw6613529449190102663 n₀ ann t)) (some s) (through t)=_
    rw [<- PySem.W.Fast.te10156331382660048174,<- PySem.W.Fast.te11892475500146522536,<- PySem.W.Fast.te6613529449190102663]
    rw [H0]
    cases through t with
    | true=>rfl
    | false =>
      cases stepOk n₀ ann t with
      | false=>rfl
      | true =>
        cases hs:stepT (denote treeTable) p w s t with
        | none=>rfl
        | some r=>obtain ⟨s₂,t₂⟩:=r;exact Li n s₂ t₂
noncomputable def Ajd (P:Params):BT:=((boot_heap P).objs.toList.foldl (fun (x:BT × Nat) o=>(x.1.ins x.2 o,x.2+1)) (.nil,0)).1
noncomputable def Ag3 (w:World) (os:OsState):SharedT:=⟨Ajd w.params,(boot_heap w.params).objs.size,(boot_heap w.params).life,#[],boot_drawn,boot_toks,os⟩
theorem Vr (w:World):((boot_heap w.params).isNs mainGlobals && (#[]:Array GenState).size == 0,(boot_heap w.params).objs.size,(boot_heap w.params).nsMap mainGlobals "__annotations__")=(true,11,some (.ref 6)):=by kernel_rfl
theorem Vs (w:World) (os:OsState):(Ag3 w os).abs=⟨boot_heap w.params,#[],boot_drawn,boot_toks,os⟩:=by kernel_rfl
theorem Ad5 {p q:Program} {loose:List Str} {Xt:Shared -> Bool} {α:Type} {Yf:Shared -> α} {Ya:World -> α} {N M:Nat} {g0:Bool}
    (e:opening p=plainProg p.main.scope.names) (hN:Nat.ble 600 N=true) (f:∀ s,fenceModules? p s=some s) (le:Nat.ble M N=true)
    (run:∀ (w:World) (os:OsState),(P3 p w 11 (some (.ref 6)) M (Ag3 w os) (topStub p)).map (fun s=>(staticsOk (importedModules p.main.body) (boot_heap w.params) s.abs.heap && namesBound p s.abs.heap && gensDone s.abs && laidKept (boot_heap w.params) s.abs.heap,
      openSeen q loose (importedModules p.main.body) Xt g0 s.abs,Yf s.abs))=some (true,openGood q loose,Ya w)):LeftO p q loose Xt Yf Ya N g0:=fun w=>by
  refine ex1 (Option.map_eq_some_iff.mp (boot_open e hN f w)) fun zn0 zz=>Ac zz fun e1 e'=>?_;obtain ⟨h,gs,d,k,os⟩:=zn0
  obtain ⟨rfl,rfl,rfl,rfl⟩:h=boot_heap w.params /\ gs=#[] /\ d=boot_drawn /\ k=boot_toks:=by simpa using e'
  obtain ⟨z1,z2,z3⟩:_ /\ _ /\ _:=by simpa only [Prod.mk.injEq] using Vr w
  refine ex1 (Option.map_eq_some_iff.mp (run w os)) fun s zz=>Ac zz fun h1 h2=>?_
  obtain ⟨l1,l2,l3⟩:_ /\ _ /\ _:=by simpa only [Prod.mk.injEq] using h2
  rw [Li] at h1
  have r:=Lh h1
  rw [Vs] at r
  replace r:=topRun_mono (N - M) _ _ _ _ r
  rw [show M+(N - M)=N by have:=Nat.le_of_ble_eq_true le;exact Ah8 this] at r
  have t:topFrom treeTable p w N ⟨boot_heap w.params,#[],boot_drawn,boot_toks,os⟩=some s.abs:=by
    unfold topFrom
    dsimp only
    rw [z1,z2,z3,r]
    show (match staticsOk (importedModules p.main.body) (boot_heap w.params) s.abs.heap && namesBound p s.abs.heap && gensDone s.abs && laidKept (boot_heap w.params) s.abs.heap with | true=>_ | false=>_)=_
    rw [l1]
  unfold openEnds
  rw [e1]
  show (topFrom treeTable p w N _).map _=_
  rw [t]
  exact congrArg some (Prod.ext l2 l3)
end Mine.Internal
namespace Mine.Internal.Pure
open PySem
section
variable {α β:Type} {m:M α} {f:α -> M β} {H H':Hp} {a:α} {T:Tab} {Φ:Funs} {Γ:Env'}
theorem Aa8 (a:α) (H:Hp):M.ret a H=.ok a H:=rfl
theorem C4 (f:Hp -> Option α) (H:Hp):M.look f H=(match f H with | some a=>.ok a H | none=>.bad):=rfl
theorem Mk (ns:List Int):bfV .len [.script ns]=M.ret (.int ns.length):=by
  funext H
  show (match (some (Val.int (ns.map Val.int).length):Option Val) with | some a=>Res.ok a H | none=>.bad)=_
  rw [List.length_map];rfl
theorem S6 {l:Nat} {xs:List Val} {H:Hp} (h:H[l]?=some (.list xs)):bfV .len [.loc l] H=.ok (.int xs.length) H:=by
  have e:bfV .len [.loc l]=M.look (fun H=>(B3 (.loc l) H).map fun xs=>Val.int xs.length):=rfl
  rw [e,C4]
  rw [Xy h];rfl
theorem add_int (x y:Int):Xl .add (.int x) (.int y)=M.ret (.int (x+y)):=rfl
theorem sub_int (x y:Int):Xl .sub (.int x) (.int y)=M.ret (.int (x - y)):=rfl
theorem S7 {ns:List Int} {k:Nat} {v:Int} (h:ns[k]?=some v):En (.script ns) (.int k)=M.ret (.int v):=by
  have lt:=(List.getElem?_eq_some_iff.mp h).1
  funext H
  have e:En (.script ns) (.int k)=M.look (fun _=>(Bh (k:Int) ns.length).bind fun p=>(ns[p]?).map Val.int):=rfl
  have:Bh (k:Int) ns.length=some k:=by
    unfold Bh
    rw [if_pos (by exact Aas),if_pos (by exact Ahw lt)];rfl
  rw [e,C4,this]
  simp only [Option.bind_some,h,Option.map_some,Aa8]
theorem sub_tup {xs:List Val} {k:Nat} {v:Val} (h:xs[k]?=some v):En (.tup xs) (.int k)=M.ret v:=by
  funext H
  have e:En (.tup xs) (.int k)=M.look (fun _=>if 0 <= (k:Int) then xs[(k:Int).toNat]? else none):=rfl
  rw [e,C4]
  simp only [if_pos (show 0 <= (k:Int) by exact Aas),Int.toNat_natCast,h,Aa8]
theorem Ad6 {d k:Nat} {g:MFun} {args:List Val} (h:T.funs[k]?=some g) (ha:args.length=g.arity) :
    Ag T (d+1) k args H=Ab2 (execSs T (Ag T d) g.body (args.map some++List.replicate g.nvars none) H):=by
  rw [Ag,h]
  show Ahz T (Ag T d) g args H=_
  unfold Ahz
  rw [if_pos ha]
end
noncomputable def Wp {α:Type} (m:M α) (H:Hp) (Q:α -> Hp -> Prop) (E:Nat -> Hp -> Prop):Prop :=
  match m H with
  | .ok a H'=>Q a H'
  | .exc c H'=>E c H'
  | .bad=>False
noncomputable def WpS (r:ResS) (Q:Env' -> Hp -> Prop) (R:Val -> Hp -> Prop) (E:Nat -> Env' -> Hp -> Prop):Prop :=
  match r with
  | .next Γ H=>Q Γ H
  | .ret v H=>R v H
  | .exc c Γ H=>E c Γ H
  | .bad=>False
noncomputable def P4:Env' -> Nat -> (Val -> Prop) -> Prop
  | [],_,_=>False
  | some v :: _,0,k=>k v
  | none :: _,0,_=>False
  | _ :: Γ,n+1,k=>P4 Γ n k
noncomputable def D3:Val -> (Bool -> Prop) -> Prop
  | .bool b,k=>k b
  | _,_=>False
noncomputable def Dq {α:Type}:Option α -> (α -> Prop) -> Prop
  | some a,k=>k a
  | none,_=>False
noncomputable def brB:Bool -> Prop -> Prop -> Prop
  | true,a,_=>a
  | false,_,b=>b
noncomputable def NoE:Nat -> Hp -> Prop:=fun _ _=>False
noncomputable def NoX:Nat -> Env' -> Hp -> Prop:=fun _ _ _=>False
noncomputable def Hh (op:BOp) (a b:Val) (H:Hp) (Q:Val -> Hp -> Prop) (E:Nat -> Hp -> Prop):Prop :=
  match a,b with
  | .int x,.int y=>(match op with
    | .add=>Q (.int (x+y)) H
    | .sub=>Q (.int (x - y)) H
    | .mul=>(small x || small y)=true /\ Q (.int (x * y)) H
    | .fdiv=>¬ (y=0 \/ 1073741824 <= y.natAbs) /\ Q (.int (Int.fdiv x y)) H
    | .mod=>¬ (y=0) /\ Q (.int (Int.fmod x y)) H)
  | a,b=>Wp (Xl op a b) H Q E
mutual
noncomputable def wpE (T:Tab) (Φ:Funs):ME -> Env' -> Hp -> (Val -> Hp -> Prop) -> (Nat -> Hp -> Prop) -> Prop
  | .none,_,H,Q,_=>Q .none H
  | .bool b,_,H,Q,_=>Q (.bool b) H
  | .int i,_,H,Q,_=>Q (.int i) H
  | .str s,_,H,Q,_=>Q (.str s) H
  | .glob k,_,H,Q,_=>Dq T.globs[k]? fun v=>Q v H
  | .var i,Γ,H,Q,_=>P4 Γ i fun v=>Q v H
  | .bin op a b,Γ,H,Q,E=>wpE T Φ a Γ H (fun x H=>wpE T Φ b Γ H (fun y H=>Hh op x y H Q E) E) E
  | .neg a,Γ,H,Q,E=>Wp (Ai T Φ (.neg a) Γ) H Q E
  | .not a,Γ,H,Q,E=>wpE T Φ a Γ H (fun x H=>D3 x fun b=>Q (.bool (!b)) H) E
  | .and a b,Γ,H,Q,E=>wpE T Φ a Γ H (fun x H=>D3 x fun t=>brB t (wpE T Φ b Γ H Q E) (Q (.bool false) H)) E
  | .or a b,Γ,H,Q,E=>wpE T Φ a Γ H (fun x H=>D3 x fun t=>brB t (Q (.bool true) H) (wpE T Φ b Γ H Q E)) E
  | .cmp op a b,Γ,H,Q,E=>wpE T Φ a Γ H (fun x H=>wpE T Φ b Γ H (fun y H=>Dq (C2 op x y H) fun r=>Q (.bool r) H) E) E
  | .cmp2 op1 op2 a b c,Γ,H,Q,E=>wpE T Φ a Γ H (fun x H=>wpE T Φ b Γ H (fun y H=>Dq (C2 op1 x y H) fun r=>brB r (wpE T Φ c Γ H (fun z H=>Dq (C2 op2 y z H) fun r=>Q (.bool r) H) E) (Q (.bool false) H)) E) E
  | .sub a i,Γ,H,Q,E=>wpE T Φ a Γ H (fun x H=>wpE T Φ i Γ H (fun y H=>Wp (En x y) H Q E) E) E
  | .slice a lo hi,Γ,H,Q,E=>wpE T Φ a Γ H (fun x H=>wpO T Φ lo Γ H (fun l H=>wpO T Φ hi Γ H (fun h H=>Wp (I2 x l h) H Q E) E) E) E
  | .tup es,Γ,H,Q,E=>wpEs T Φ es Γ H (fun vs H=>Q (.tup vs) H) E
  | .list es,Γ,H,Q,E=>wpEs T Φ es Γ H (fun vs H=>Q (.loc H.length) (H++[.list vs])) E
  | .dict,_,H,Q,_=>Q (.loc H.length) (H++[.dict []])
  | .attr a n,Γ,H,Q,E=>wpE T Φ a Γ H (fun x H=>Wp (M6 x n) H Q E) E
  | .call f es,Γ,H,Q,E=>wpEs T Φ es Γ H (fun vs H=>Wp (Φ f vs) H Q E) E
  | .new c es,Γ,H,Q,E=>Dq (T.meth c 0) (fun _=>wpEs T Φ es Γ H (fun vs H=>Wp (Xn T Φ c vs) H Q E) E)
  | .umeth a m es,Γ,H,Q,E=>wpE T Φ a Γ H (fun o H=>Wp (Ee T o m) H (fun k H=>wpEs T Φ es Γ H (fun vs H=>Wp (Φ k (o :: vs)) H Q E) E) E) E
  | .bf f es,Γ,H,Q,E=>wpEs T Φ es Γ H (fun vs H=>Wp (bfV f vs) H Q E) E
  | .bm a m es,Γ,H,Q,E=>wpE T Φ a Γ H (fun o H=>Dq (Ez m o H) fun _=>wpEs T Φ es Γ H (fun vs H=>Wp (bmV m o vs) H Q E) E) E
  | .isinst a t,Γ,H,Q,E=>wpE T Φ a Γ H (fun x H=>Wp (A4 T x t) H Q E) E
  | .sset a,Γ,H,Q,E=>wpE T Φ a Γ H (fun x H=>Wp (Lv x) H Q E) E
  | .comp elt it cond,Γ,H,Q,E=>Wp (Ai T Φ (.comp elt it cond) Γ) H Q E
noncomputable def wpO (T:Tab) (Φ:Funs):MEo -> Env' -> Hp -> (Val -> Hp -> Prop) -> (Nat -> Hp -> Prop) -> Prop
  | .none,_,H,Q,_=>Q .none H
  | .some e,Γ,H,Q,E=>wpE T Φ e Γ H Q E
noncomputable def wpEs (T:Tab) (Φ:Funs):MEs -> Env' -> Hp -> (List Val -> Hp -> Prop) -> (Nat -> Hp -> Prop) -> Prop
  | .nil,_,H,Q,_=>Q [] H
  | .cons e es,Γ,H,Q,E=>wpE T Φ e Γ H (fun v H=>wpEs T Φ es Γ H (fun vs H=>Q (v :: vs) H) E) E
end
mutual
noncomputable def wpS (T:Tab) (Φ:Funs):MS -> Env' -> Hp -> (Env' -> Hp -> Prop) -> (Val -> Hp -> Prop) -> (Nat -> Env' -> Hp -> Prop) -> Prop
  | .expr e,Γ,H,Q,_,E=>wpE T Φ e Γ H (fun _ H=>Q Γ H) fun c H=>E c Γ H
  | .assign i e,Γ,H,Q,_,E=>wpE T Φ e Γ H (fun v H=>Q (Γ.set i (some v)) H) fun c H=>E c Γ H
  | .setattr o n e,Γ,H,Q,_,E=>wpE T Φ e Γ H (fun v H=>wpE T Φ o Γ H (fun o H=>Wp (Bn o n v) H (fun _ H=>Q Γ H) fun c H=>E c Γ H) fun c H=>E c Γ H) fun c H=>E c Γ H
  | .setitem o i e,Γ,H,Q,_,E=>wpE T Φ e Γ H (fun v H=>wpE T Φ o Γ H (fun o H=>wpE T Φ i Γ H (fun i H=>Wp (Bw o i v) H (fun _ H=>Q Γ H) fun c H=>E c Γ H) fun c H=>E c Γ H) fun c H=>E c Γ H) fun c H=>E c Γ H
  | .ret e,Γ,H,_,R,E=>wpO T Φ e Γ H R fun c H=>E c Γ H
  | .ite c t f,Γ,H,Q,R,E=>wpE T Φ c Γ H (fun v H=>D3 v fun b=>brB b (wpSs T Φ t Γ H Q R E) (wpSs T Φ f Γ H Q R E)) fun c H=>E c Γ H
  | .raise _ _,_,_,_,_,_=>False
  | .each i a b,Γ,H,Q,R,E=>WpS (Fp T Φ (.each i a b) Γ H) Q R E
  | .eachEnum i j a b,Γ,H,Q,R,E=>WpS (Fp T Φ (.eachEnum i j a b) Γ H) Q R E
noncomputable def wpSs (T:Tab) (Φ:Funs):MSs -> Env' -> Hp -> (Env' -> Hp -> Prop) -> (Val -> Hp -> Prop) -> (Nat -> Env' -> Hp -> Prop) -> Prop
  | .nil,Γ,H,Q,_,_=>Q Γ H
  | .cons s ss,Γ,H,Q,R,E=>wpS T Φ s Γ H (fun Γ H=>wpSs T Φ ss Γ H Q R E) R E
end
section
variable {α β:Type} {T:Tab} {Φ:Funs} {Γ:Env'} {H:Hp}
variable {Q:Val -> Hp -> Prop} {E:Nat -> Hp -> Prop} {QS:Env' -> Hp -> Prop} {R:Val -> Hp -> Prop} {ES:Nat -> Env' -> Hp -> Prop}
theorem Q9 {Q:α -> Hp -> Prop} (a:α):Wp (M.ret a) H Q E=Q a H:=rfl
theorem Ar {Q:β -> Hp -> Prop} (m:M α) (f:α -> M β):Wp (m.bnd f) H Q E=Wp m H (fun a H'=>Wp (f a) H' Q E) E:=by
  unfold Wp M.bnd
  cases m H <;> rfl
theorem Zn (o:HObj):Wp (M.alloc o) H Q E=Q (.loc H.length) (H++[o]):=rfl
theorem Wp.mono {Q Q':α -> Hp -> Prop} {E':Nat -> Hp -> Prop} {m:M α} (h:Wp m H Q E) (hq:∀ a H',Q a H' -> Q' a H') (he:∀ c H',E c H' -> E' c H'):Wp m H Q' E':=by
  unfold Wp at h ⊢
  cases hm:m H with
  | ok a H'=>rw [hm] at h;exact hq _ _ h
  | exc c H'=>rw [hm] at h;exact he _ _ h
  | bad=>rw [hm] at h;exact h
theorem Wp.then {Q Q':α -> Hp -> Prop} {m:M α} (h:Wp m H Q NoE) (hq:∀ a H',Q a H' -> Q' a H'):Wp m H Q' E :=
  h.mono hq (fun _ _ f=>f.elim)
theorem Wp.of_eq {Q:α -> Hp -> Prop} {m:M α} {a:α} {H':Hp} (h:m H=.ok a H') (q:Q a H'):Wp m H Q E:=by
  unfold Wp;rw [h];exact q
theorem Wp.get {Q:α -> Hp -> Prop} {m:M α} (h:Wp m H Q NoE):∃ a H',m H=.ok a H' /\ Q a H':=by
  unfold Wp at h
  cases hm:m H with
  | ok a H'=>rw [hm] at h;exact ⟨a,H',rfl,h⟩
  | exc c H'=>rw [hm] at h;exact h.elim
  | bad=>rw [hm] at h;exact h.elim
theorem WpS.mono {r:ResS} {Q':Env' -> Hp -> Prop} {R':Val -> Hp -> Prop} {E':Nat -> Env' -> Hp -> Prop} (h:WpS r QS R ES) (hq:∀ Γ H',QS Γ H' -> Q' Γ H') (hr:∀ v H',R v H' -> R' v H') (he:∀ c Γ H',ES c Γ H' -> E' c Γ H'):WpS r Q' R' E':=by
  cases r with
  | next Γ H=>exact hq _ _ h
  | ret v H=>exact hr _ _ h
  | exc c Γ H=>exact he _ _ _ h
  | bad=>exact h
theorem Cf (m:M α) (Γ:Env') (f:α -> Hp -> ResS):WpS (Fr m Γ f H) QS R ES=Wp m H (fun a H'=>WpS (f a H') QS R ES) (fun c H'=>ES c Γ H'):=by
  unfold Wp Fr
  cases m H <;> rfl
theorem Zo (r:ResS) (f:Env' -> Hp -> ResS):WpS (M8 r f) QS R ES=WpS r (fun Γ H=>WpS (f Γ H) QS R ES) R ES:=by
  cases r <;> rfl
theorem Aa9 {Q:α -> Hp -> Prop} (o:Option α):Wp (M.ofOpt o) H Q E=Dq o (fun v=>Q v H):=by cases o <;> rfl
theorem F8 {Q:α -> Hp -> Prop} (f:Hp -> Option α):Wp (M.look f) H Q E=Dq (f H) (fun v=>Q v H):=by
  unfold Wp M.look
  cases f H <;> rfl
theorem Du:∀ (Γ:Env') (i:Nat) (k:Val -> Prop),P4 Γ i k=Dq (match Γ[i]? with | some (some v)=>some v | _=>none) k
  | [],i,k=>by cases i <;> rfl
  | some v :: Γ,0,k=>rfl
  | none :: Γ,0,k=>rfl
  | o :: Γ,i+1,k=>by
    have:P4 (o :: Γ) (i+1) k=P4 Γ i k:=by cases o <;> rfl
    rw [this,Du Γ i k,List.getElem?_cons_succ]
theorem Aj (v:Val) (Γ:Env') (k:Val -> Prop):P4 (some v :: Γ) 0 k=k v:=rfl
theorem A3 (o:Option Val) (Γ:Env') (n:Nat) (k:Val -> Prop):P4 (o :: Γ) (n+1) k=P4 Γ n k:=by cases o <;> rfl
theorem N5 (v:Val) (Γ:Env') (n:Nat) (k:Val -> Prop):P4 (some v :: Γ) (n+1) k=P4 Γ n k:=rfl
theorem Aba (Γ:Env') (n:Nat) (k:Val -> Prop):P4 (none :: Γ) (n+1) k=P4 Γ n k:=rfl
theorem Af (b:Bool) (k:Bool -> Prop):D3 (.bool b) k=k b:=rfl
theorem Cs {α:Type} (a:α) (k:α -> Prop):Dq (some a) k=k a:=rfl
theorem Cw {α:Type} {o:Option α} {a:α} (h:o=some a) (k:α -> Prop):Dq o k=k a:=by rw [h];rfl
theorem Fj (A B:Prop):brB true A B=A:=rfl
theorem D4 (A B:Prop):brB false A B=B:=rfl
theorem Ml (b:Bool) (A B:Prop):brB (!b) A B=brB b B A:=by cases b <;> rfl
theorem C5 {p:Prop} [Decidable p] (h:p) (A B:Prop):brB (decide p) A B=A:=by rw [decide_eq_true h];rfl
theorem Bu {p:Prop} [Decidable p] (h:¬ p) (A B:Prop):brB (decide p) A B=B:=by rw [decide_eq_false h];rfl
theorem Dh {b:Bool} {A B:Prop} (h1:b=true -> A) (h2:b=false -> B):brB b A B:=by
  cases b
  · exact h2 rfl
  · exact h1 rfl
theorem Il {Q:Bool -> Hp -> Prop} (v:Val):Wp (Dn v) H Q E=D3 v (fun b=>Q b H):=by cases v <;> rfl
theorem Jo (x:Val) (A B:Prop) (f:Bool -> Prop) (h1:f true=A) (h2:f false=B):D3 x f=D3 x (fun t=>brB t A B):=by
  cases x with
  | bool b=>cases b;exact h2;exact h1
  | _=>rfl
theorem Ad7 (x:Option Bool) (A B:Prop) (f:Bool -> Prop) (h1:f true=A) (h2:f false=B):Dq x f=Dq x (fun t=>brB t A B):=by
  cases x with
  | some b=>cases b;exact h2;exact h1
  | _=>rfl
theorem Abb {Q:α -> Hp -> Prop} (p:Prop) [Decidable p] (m:M α):Wp (if p then m else M.bad) H Q E=(p /\ Wp m H Q E):=by
  by_cases h:p
  · rw [if_pos h];simp [h]
  · rw [if_neg h];simp [h];exact fun h=>h
theorem Vt {Q:α -> Hp -> Prop} (p:Prop) [Decidable p] (m:M α):Wp (if p then M.bad else m) H Q E=(¬ p /\ Wp m H Q E):=by
  by_cases h:p
  · rw [if_pos h];simp [h];exact fun h=>h
  · rw [if_neg h];simp [h]
theorem Zp (op:BOp) (a b:Val):Wp (Xl op a b) H Q E=Hh op a b H Q E:=by
  unfold Hh
  split
  · cases op with
    | add=>rfl
    | sub=>rfl
    | mul=>exact Abb _ _
    | fdiv=>exact Vt _ _
    | mod=>exact Vt _ _
  · rfl
theorem F9:wpE T Φ .none Γ H Q E=Q .none H:=rfl
theorem Mm (b:Bool):wpE T Φ (.bool b) Γ H Q E=Q (.bool b) H:=rfl
theorem Co (i:Int):wpE T Φ (.int i) Γ H Q E=Q (.int i) H:=rfl
theorem H6 (s:Str):wpE T Φ (.str s) Γ H Q E=Q (.str s) H:=rfl
theorem wp_glob (k:Nat):wpE T Φ (.glob k) Γ H Q E=Dq T.globs[k]? (fun v=>Q v H):=rfl
theorem An (i:Nat):wpE T Φ (.var i) Γ H Q E=P4 Γ i (fun v=>Q v H):=rfl
theorem C7 (op:BOp) (a b:ME):wpE T Φ (.bin op a b) Γ H Q E=wpE T Φ a Γ H (fun x H=>wpE T Φ b Γ H (fun y H=>Hh op x y H Q E) E) E:=rfl
theorem Es (a:ME):wpE T Φ (.not a) Γ H Q E=wpE T Φ a Γ H (fun x H=>D3 x fun b=>Q (.bool (!b)) H) E:=rfl
theorem Jp (a b:ME):wpE T Φ (.and a b) Γ H Q E=wpE T Φ a Γ H (fun x H=>D3 x fun t=>brB t (wpE T Φ b Γ H Q E) (Q (.bool false) H)) E:=rfl
theorem Km (a b:ME):wpE T Φ (.or a b) Γ H Q E=wpE T Φ a Γ H (fun x H=>D3 x fun t=>brB t (Q (.bool true) H) (wpE T Φ b Γ H Q E)) E:=rfl
theorem Bg (op:COp) (a b:ME):wpE T Φ (.cmp op a b) Γ H Q E=wpE T Φ a Γ H (fun x H=>wpE T Φ b Γ H (fun y H=>Dq (C2 op x y H) fun r=>Q (.bool r) H) E) E:=rfl
theorem Mn (op1 op2:COp) (a b c:ME):wpE T Φ (.cmp2 op1 op2 a b c) Γ H Q E=wpE T Φ a Γ H (fun x H=>wpE T Φ b Γ H (fun y H=>Dq (C2 op1 x y H) fun r=>brB r (wpE T Φ c Γ H (fun z H=>Dq (C2 op2 y z H) fun r=>Q (.bool r) H) E) (Q (.bool false) H)) E) E:=rfl
theorem Di (a i:ME):wpE T Φ (.sub a i) Γ H Q E=wpE T Φ a Γ H (fun x H=>wpE T Φ i Γ H (fun y H=>Wp (En x y) H Q E) E) E:=rfl
theorem Gv (a:ME) (lo hi:MEo):wpE T Φ (.slice a lo hi) Γ H Q E=wpE T Φ a Γ H (fun x H=>wpO T Φ lo Γ H (fun l H=>wpO T Φ hi Γ H (fun h H=>Wp (I2 x l h) H Q E) E) E) E:=rfl
theorem Im:wpO T Φ .none Γ H Q E=Q .none H:=rfl
theorem A2 (e:ME):wpO T Φ (.some e) Γ H Q E=wpE T Φ e Γ H Q E:=rfl
theorem Jq (es:MEs):wpE T Φ (.tup es) Γ H Q E=wpEs T Φ es Γ H (fun vs H=>Q (.tup vs) H) E:=rfl
theorem Ej (es:MEs):wpE T Φ (.list es) Γ H Q E=wpEs T Φ es Γ H (fun vs H=>Q (.loc H.length) (H++[.list vs])) E:=rfl
theorem Vu:wpE T Φ .dict Γ H Q E=Q (.loc H.length) (H++[.dict []]):=rfl
theorem Fa (a:ME) (n:Nat):wpE T Φ (.attr a n) Γ H Q E=wpE T Φ a Γ H (fun x H=>Wp (M6 x n) H Q E) E:=rfl
theorem A9 (f:Nat) (es:MEs):wpE T Φ (.call f es) Γ H Q E=wpEs T Φ es Γ H (fun vs H=>Wp (Φ f vs) H Q E) E:=rfl
theorem Vv (c:Nat) (es:MEs):wpE T Φ (.new c es) Γ H Q E=Dq (T.meth c 0) (fun _=>wpEs T Φ es Γ H (fun vs H=>Wp (Xn T Φ c vs) H Q E) E):=rfl
theorem Fk (a:ME) (m:Nat) (es:MEs):wpE T Φ (.umeth a m es) Γ H Q E=wpE T Φ a Γ H (fun o H=>Wp (Ee T o m) H (fun k H=>wpEs T Φ es Γ H (fun vs H=>Wp (Φ k (o :: vs)) H Q E) E) E) E:=rfl
theorem D5 (f:BF) (es:MEs):wpE T Φ (.bf f es) Γ H Q E=wpEs T Φ es Γ H (fun vs H=>Wp (bfV f vs) H Q E) E:=rfl
theorem N6 (a:ME) (m:BM) (es:MEs):wpE T Φ (.bm a m es) Γ H Q E=wpE T Φ a Γ H (fun o H=>Dq (Ez m o H) fun _=>wpEs T Φ es Γ H (fun vs H=>Wp (bmV m o vs) H Q E) E) E:=rfl
theorem Ad8 (a:ME):wpE T Φ (.sset a) Γ H Q E=wpE T Φ a Γ H (fun x H=>Wp (Lv x) H Q E) E:=rfl
theorem Dj (a:ME) (t:Ty):wpE T Φ (.isinst a t) Γ H Q E=wpE T Φ a Γ H (fun x H=>Wp (A4 T x t) H Q E) E:=rfl
theorem Au {Q:List Val -> Hp -> Prop}:wpEs T Φ .nil Γ H Q E=Q [] H:=rfl
theorem Am {Q:List Val -> Hp -> Prop} (e:ME) (es:MEs):wpEs T Φ (.cons e es) Γ H Q E=wpE T Φ e Γ H (fun v H=>wpEs T Φ es Γ H (fun vs H=>Q (v :: vs) H) E) E:=rfl
theorem Cg:wpSs T Φ .nil Γ H QS R ES=QS Γ H:=rfl
theorem Ae (s:MS) (ss:MSs):wpSs T Φ (.cons s ss) Γ H QS R ES=wpS T Φ s Γ H (fun Γ H=>wpSs T Φ ss Γ H QS R ES) R ES:=rfl
theorem Ca (e:ME):wpS T Φ (.expr e) Γ H QS R ES=wpE T Φ e Γ H (fun _ H=>QS Γ H) (fun c H=>ES c Γ H):=rfl
theorem Bt (i:Nat) (e:ME):wpS T Φ (.assign i e) Γ H QS R ES=wpE T Φ e Γ H (fun v H=>QS (Γ.set i (some v)) H) (fun c H=>ES c Γ H):=rfl
theorem Bi (e:MEo):wpS T Φ (.ret e) Γ H QS R ES=wpO T Φ e Γ H R (fun c H=>ES c Γ H):=rfl
theorem Bv (c:ME) (t f:MSs):wpS T Φ (.ite c t f) Γ H QS R ES=wpE T Φ c Γ H (fun v H=>D3 v fun b=>brB b (wpSs T Φ t Γ H QS R ES) (wpSs T Φ f Γ H QS R ES)) (fun c H=>ES c Γ H):=rfl
theorem Ga (o:ME) (n:Nat) (e:ME):wpS T Φ (.setattr o n e) Γ H QS R ES=wpE T Φ e Γ H (fun v H=>wpE T Φ o Γ H (fun o H=>Wp (Bn o n v) H (fun _ H=>QS Γ H) (fun c H=>ES c Γ H)) (fun c H=>ES c Γ H)) (fun c H=>ES c Γ H):=rfl
theorem Dk (o i e:ME):wpS T Φ (.setitem o i e) Γ H QS R ES=wpE T Φ e Γ H (fun v H=>wpE T Φ o Γ H (fun o H=>wpE T Φ i Γ H (fun i H=>Wp (Bw o i v) H (fun _ H=>QS Γ H) (fun c H=>ES c Γ H)) (fun c H=>ES c Γ H)) (fun c H=>ES c Γ H)) (fun c H=>ES c Γ H):=rfl
theorem N7 (c:Nat) (m:Str):wpS T Φ (.raise c m) Γ H QS R ES=False:=rfl
theorem B5 {e:ME} {Q Q':Val -> Hp -> Prop} (h:∀ v H,Q v H=Q' v H):wpE T Φ e Γ H Q E=wpE T Φ e Γ H Q' E:=congrArg (fun q=>wpE T Φ e Γ H q E) (funext fun v=>funext fun H=>h v H)
theorem Ag4 {e:MEo} {Q Q':Val -> Hp -> Prop} (h:∀ v H,Q v H=Q' v H):wpO T Φ e Γ H Q E=wpO T Φ e Γ H Q' E:=congrArg (fun q=>wpO T Φ e Γ H q E) (funext fun v=>funext fun H=>h v H)
theorem Aje {m:M α} {Q Q':α -> Hp -> Prop} (h:∀ v H,Q v H=Q' v H):Wp m H Q E=Wp m H Q' E:=congrArg (fun q=>Wp m H q E) (funext fun v=>funext fun H=>h v H)
theorem Ad9 {o:Option α} {Q Q':α -> Prop} (h:∀ v,Q v=Q' v):Dq o Q=Dq o Q':=congrArg (Dq o) (funext h)
theorem Ag5 {e:MS} {Q Q':Env' -> Hp -> Prop} (h:∀ v H,Q v H=Q' v H):wpS T Φ e Γ H Q R ES=wpS T Φ e Γ H Q' R ES:=congrArg (fun q=>wpS T Φ e Γ H q R ES) (funext fun v=>funext fun H=>h v H)
end
mutual
theorem A6 (T:Tab) (Φ:Funs):∀ (e:ME) (Γ:Env') (H:Hp) (Q:Val -> Hp -> Prop) (E:Nat -> Hp -> Prop),Wp (Ai T Φ e Γ) H Q E=wpE T Φ e Γ H Q E
  | .none,_,_,_,_=>rfl
  | .bool _,_,_,_,_=>rfl
  | .int _,_,_,_,_=>rfl
  | .str _,_,_,_,_=>rfl
  | .glob k,_,H,Q,E=>Aa9 _
  | .var i,Γ,H,Q,E=>(Aa9 _).trans (Du Γ i fun v=>Q v H).symm
  | .bin op a b,Γ,H,Q,E=>(Ar _ _).trans ((A6 T Φ a Γ H _ E).trans ((B5 fun x H=>(Ar _ _).trans ((A6 T Φ b Γ H _ E).trans (B5 fun y H=>Zp op x y))).trans (C7 op a b).symm))
  | .neg _,_,_,_,_=>rfl
  | .not a,Γ,H,Q,E=>(Ar _ _).trans ((A6 T Φ a Γ H _ E).trans ((B5 fun x H=>(Ar _ _).trans (Il x)).trans (Es a).symm))
  | .and a b,Γ,H,Q,E=>(Ar _ _).trans ((A6 T Φ a Γ H _ E).trans ((B5 fun x H=>(Ar _ _).trans ((Il x).trans (Jo _ _ _ _ (A6 T Φ b Γ H Q E) rfl))).trans (Jp a b).symm))
  | .or a b,Γ,H,Q,E=>(Ar _ _).trans ((A6 T Φ a Γ H _ E).trans ((B5 fun x H=>(Ar _ _).trans ((Il x).trans (Jo _ _ _ _ rfl (A6 T Φ b Γ H Q E)))).trans (Km a b).symm))
  | .cmp op a b,Γ,H,Q,E=>(Ar _ _).trans ((A6 T Φ a Γ H _ E).trans ((B5 fun x H=>(Ar _ _).trans ((A6 T Φ b Γ H _ E).trans (B5 fun y H=>(Ar _ _).trans (F8 _)))).trans (Bg op a b).symm))
  | .cmp2 op1 op2 a b c,Γ,H,Q,E=>(Ar _ _).trans ((A6 T Φ a Γ H _ E).trans ((B5 fun x H=>(Ar _ _).trans ((A6 T Φ b Γ H _ E).trans (B5 fun y H=>(Ar _ _).trans ((F8 _).trans (Ad7 _ _ _ _ ((Ar _ _).trans ((A6 T Φ c Γ H _ E).trans (B5 fun z H=>(Ar _ _).trans (F8 _)))) rfl))))).trans (Mn op1 op2 a b c).symm))
  | .sub a i,Γ,H,Q,E=>(Ar _ _).trans ((A6 T Φ a Γ H _ E).trans ((B5 fun x H=>(Ar _ _).trans (A6 T Φ i Γ H _ E)).trans (Di a i).symm))
  | .slice a lo hi,Γ,H,Q,E=>(Ar _ _).trans ((A6 T Φ a Γ H _ E).trans ((B5 fun x H=>(Ar _ _).trans ((wpO_eq T Φ lo Γ H _ E).trans (Ag4 fun l H=>(Ar _ _).trans (wpO_eq T Φ hi Γ H _ E)))).trans (Gv a lo hi).symm))
  | .tup es,Γ,H,Q,E=>(Ar _ _).trans ((wpEs_eq T Φ es Γ H _ E).trans rfl)
  | .list es,Γ,H,Q,E=>(Ar _ _).trans ((wpEs_eq T Φ es Γ H _ E).trans rfl)
  | .dict,_,_,_,_=>rfl
  | .attr a n,Γ,H,Q,E=>(Ar _ _).trans (A6 T Φ a Γ H _ E)
  | .call f es,Γ,H,Q,E=>(Ar _ _).trans (wpEs_eq T Φ es Γ H _ E)
  | .new c es,Γ,H,Q,E=>by
    have h:Ai T Φ (.new c es) Γ=(match T.meth c 0 with
      | some _=>(evalEs T Φ es Γ).bnd fun vs=>Xn T Φ c vs
      | none=>M.bad):=rfl
    rw [h]
    show _=Dq (T.meth c 0) _
    cases T.meth c 0 with
    | none=>rfl
    | some k=>exact (Ar _ _).trans (wpEs_eq T Φ es Γ H _ E)
  | .umeth a m es,Γ,H,Q,E=>(Ar _ _).trans ((A6 T Φ a Γ H _ E).trans ((B5 fun o H=>(Ar _ _).trans (Aje fun k H=>(Ar _ _).trans (wpEs_eq T Φ es Γ H _ E))).trans (Fk a m es).symm))
  | .bf f es,Γ,H,Q,E=>(Ar _ _).trans (wpEs_eq T Φ es Γ H _ E)
  | .bm a m es,Γ,H,Q,E=>(Ar _ _).trans ((A6 T Φ a Γ H _ E).trans ((B5 fun o H=>(Ar _ _).trans ((F8 _).trans (Ad9 fun _=>(Ar _ _).trans (wpEs_eq T Φ es Γ H _ E)))).trans (N6 a m es).symm))
  | .isinst a t,Γ,H,Q,E=>(Ar _ _).trans (A6 T Φ a Γ H _ E)
  | .sset a,Γ,H,Q,E=>(Ar _ _).trans (A6 T Φ a Γ H _ E)
  | .comp _ _ _,_,_,_,_=>rfl
theorem wpO_eq (T:Tab) (Φ:Funs):∀ (e:MEo) (Γ:Env') (H:Hp) (Q:Val -> Hp -> Prop) (E:Nat -> Hp -> Prop),Wp (evalO T Φ e Γ) H Q E=wpO T Φ e Γ H Q E
  | .none,_,_,_,_=>rfl
  | .some e,Γ,H,Q,E=>A6 T Φ e Γ H Q E
theorem wpEs_eq (T:Tab) (Φ:Funs):∀ (es:MEs) (Γ:Env') (H:Hp) (Q:List Val -> Hp -> Prop) (E:Nat -> Hp -> Prop),Wp (evalEs T Φ es Γ) H Q E=wpEs T Φ es Γ H Q E
  | .nil,_,_,_,_=>rfl
  | .cons e es,Γ,H,Q,E=>(Ar _ _).trans ((A6 T Φ e Γ H _ E).trans ((B5 fun v H=>(Ar _ _).trans (wpEs_eq T Φ es Γ H _ E)).trans (Am e es).symm))
end
mutual
theorem Abc (T:Tab) (Φ:Funs):∀ (s:MS) (Γ:Env') (H:Hp) (Q:Env' -> Hp -> Prop) (R:Val -> Hp -> Prop) (E:Nat -> Env' -> Hp -> Prop),WpS (Fp T Φ s Γ H) Q R E=wpS T Φ s Γ H Q R E
  | .expr e,Γ,H,Q,R,E=>(Cf _ _ _).trans (A6 T Φ e Γ H _ _)
  | .assign i e,Γ,H,Q,R,E=>(Cf _ _ _).trans (A6 T Φ e Γ H _ _)
  | .setattr o n e,Γ,H,Q,R,E=>(Cf _ _ _).trans ((A6 T Φ e Γ H _ _).trans ((B5 fun v H=>(Cf _ _ _).trans ((A6 T Φ o Γ H _ _).trans (B5 fun o H=>Cf _ _ _))).trans (Ga o n e).symm))
  | .setitem o i e,Γ,H,Q,R,E=>(Cf _ _ _).trans ((A6 T Φ e Γ H _ _).trans ((B5 fun v H=>(Cf _ _ _).trans ((A6 T Φ o Γ H _ _).trans (B5 fun o H=>(Cf _ _ _).trans ((A6 T Φ i Γ H _ _).trans (B5 fun i H=>Cf _ _ _))))).trans (Dk o i e).symm))
  | .ret e,Γ,H,Q,R,E=>(Cf _ _ _).trans (wpO_eq T Φ e Γ H _ _)
  | .ite c t f,Γ,H,Q,R,E=>(Cf _ _ _).trans ((Ar _ _).trans ((A6 T Φ c Γ H _ _).trans ((B5 fun x H=>(Il x).trans (Jo _ _ _ _ (wpSs_eq T Φ t Γ H Q R E) (wpSs_eq T Φ f Γ H Q R E))).trans (Bv c t f).symm)))
  | .raise c m,Γ,H,Q,R,E=>rfl
  | .each _ _ _,_,_,_,_,_=>rfl
  | .eachEnum _ _ _ _,_,_,_,_,_=>rfl
theorem wpSs_eq (T:Tab) (Φ:Funs):∀ (ss:MSs) (Γ:Env') (H:Hp) (Q:Env' -> Hp -> Prop) (R:Val -> Hp -> Prop) (E:Nat -> Env' -> Hp -> Prop),WpS (execSs T Φ ss Γ H) Q R E=wpSs T Φ ss Γ H Q R E
  | .nil,_,_,_,_,_=>rfl
  | .cons s ss,Γ,H,Q,R,E=>(Zo _ _).trans ((Abc T Φ s Γ H _ R E).trans ((Ag5 fun Γ H=>wpSs_eq T Φ ss Γ H Q R E).trans (Ae s ss).symm))
end
section
variable {α β:Type} {T:Tab} {Φ:Funs} {Γ:Env'} {H:Hp}
variable {Q:Val -> Hp -> Prop} {E:Nat -> Hp -> Prop} {QS:Env' -> Hp -> Prop} {R:Val -> Hp -> Prop} {ES:Nat -> Env' -> Hp -> Prop}
theorem Mo {e:ME} {Q':Val -> Hp -> Prop} {E':Nat -> Hp -> Prop} (h:wpE T Φ e Γ H Q E) (hq:∀ a H',Q a H' -> Q' a H') (he:∀ c H',E c H' -> E' c H'):wpE T Φ e Γ H Q' E':=by
  rw [<- A6] at h ⊢;exact h.mono hq he
theorem Ao {e:ME} {Q':Val -> Hp -> Prop} (h:wpE T Φ e Γ H Q NoE) (hq:∀ a H',Q a H' -> Q' a H'):wpE T Φ e Γ H Q' E:=Mo h hq fun _ _ f=>f.elim
theorem Zq {s:MS} {Q':Env' -> Hp -> Prop} {R':Val -> Hp -> Prop} {E':Nat -> Env' -> Hp -> Prop} (h:wpS T Φ s Γ H QS R ES) (hq:∀ Γ H',QS Γ H' -> Q' Γ H') (hr:∀ v H',R v H' -> R' v H') (he:∀ c Γ H',ES c Γ H' -> E' c Γ H'):wpS T Φ s Γ H Q' R' E':=by
  rw [<- Abc] at h ⊢;exact h.mono hq hr he
theorem N8 {s:MSs} {Q':Env' -> Hp -> Prop} {R':Val -> Hp -> Prop} {E':Nat -> Env' -> Hp -> Prop} (h:wpSs T Φ s Γ H QS R ES) (hq:∀ Γ H',QS Γ H' -> Q' Γ H') (hr:∀ v H',R v H' -> R' v H') (he:∀ c Γ H',ES c Γ H' -> E' c Γ H'):wpSs T Φ s Γ H Q' R' E':=by
  rw [<- wpSs_eq] at h ⊢;exact h.mono hq hr he
theorem A0 {d k:Nat} {g:MFun} {args:List Val} (h:T.funs[k]?=some g) (ha:args.length=g.arity) :
    Wp (Ag T (d+1) k args) H Q E=wpSs T (Ag T d) g.body (args.map some++List.replicate g.nvars none) H (fun _ H'=>Q .none H') Q NoX:=by
  rw [<- wpSs_eq]
  unfold Wp
  rw [Ad6 h ha]
  cases execSs T (Ag T d) g.body (args.map some++List.replicate g.nvars none) H <;> rfl
theorem Io {i:Nat} {it:ME} {body:MSs} (h:wpE T Φ it Γ H (fun v H=>Dq (Cj v H) fun p=>WpS (Fo (chk p.2 p.1) (Xu i) (execSs T Φ body) p.1 Γ H) QS R ES) (fun c H=>ES c Γ H)):wpS T Φ (.each i it body) Γ H QS R ES:=by
  rw [<- A6] at h
  refine ((Cf _ _ _).trans ?_).mpr h
  simp only [Cf,F8]
theorem N9 {i j:Nat} {it:ME} {body:MSs} (h:wpE T Φ it Γ H (fun v H=>Dq (I8 v H) fun p=>WpS (Fo (chk (some p.2) p.1) (Ab1 i j) (execSs T Φ body) (B4 0 p.1) Γ H) QS R ES) (fun c H=>ES c Γ H)):wpS T Φ (.eachEnum i j it body) Γ H QS R ES:=by
  rw [<- A6] at h
  refine ((Cf _ _ _).trans ?_).mpr h
  simp only [Cf,F8]
theorem Oa {chk:Hp -> Bool} {bind:Val -> Env' -> Option Env'} {body:MSs} (I:List Val -> Env' -> Hp -> Prop) :
    ∀ (xs:List Val) (Γ:Env') (H:Hp),I xs Γ H -> (∀ Γ H,I [] Γ H -> QS Γ H) -> (∀ ys Γ H,I ys Γ H -> chk H=true) ->
    (∀ x ys Γ H,I (x :: ys) Γ H -> ∃ Γ',bind x Γ=some Γ' /\ wpSs T Φ body Γ' H (I ys) R NoX) -> WpS (Fo chk bind (execSs T Φ body) xs Γ H) QS R ES
  | [],Γ,H,h,hd,hc,_=>by
    rw [M9,if_pos (hc _ _ _ h)];exact hd _ _ h
  | x :: xs,Γ,H,h,hd,hc,hs=>by
    rw [Ku,if_pos (hc _ _ _ h)]
    refine ex1 (hs _ _ _ _ h) fun Γ' zz=>Ac zz fun e w=>?_
    rw [e]
    rw [<- wpSs_eq] at w
    dsimp only
    cases hb:execSs T Φ body Γ' H with
    | exc c Γ2 H2=>rw [hb] at w;exact w.elim
    | bad=>rw [hb] at w;exact w.elim
    | ret v H2=>rw [hb] at w;exact w
    | next Γ2 H2=>rw [hb] at w;exact Oa I xs Γ2 H2 w hd hc hs
theorem Fb {chk:Hp -> Bool} {bind:Val -> Env' -> Option Env'} {body:MSs} {xs:List Val} (I:Nat -> Env' -> Hp -> Prop)
    (h0:I 0 Γ H) (hd:∀ Γ H,I xs.length Γ H -> QS Γ H) (hc:∀ k Γ H,k <= xs.length -> I k Γ H -> chk H=true)
    (hs:∀ k x Γ H,xs[k]?=some x -> I k Γ H -> ∃ Γ',bind x Γ=some Γ' /\ wpSs T Φ body Γ' H (I (k+1)) R NoX):WpS (Fo chk bind (execSs T Φ body) xs Γ H) QS R ES:=by
  refine Oa (fun ys Γ H=>∃ k,ys=xs.drop k /\ k <= xs.length /\ I k Γ H) xs Γ H ⟨0,rfl,Nat.zero_le _,h0⟩ ?_ ?_ ?_
  · intro Γ H zz
    refine ex1 zz fun k zz=>As zz fun e l h=>?_
    have:k=xs.length:=by
      have:=congrArg List.length e
      simp at this;exact Aj2 this l
    subst this;exact hd _ _ h
  · intro ys Γ H zz
    refine ex1 zz fun k zz=>As zz fun e l h=>?_
    exact hc k Γ H l h
  · intro x ys Γ H zz
    refine ex1 zz fun k zz=>As zz fun e l h=>?_
    have hx:xs[k]?=some x:=by
      have:=congrArg (fun z=>z[0]?) e
      simpa using this.symm
    have lt:=(List.getElem?_eq_some_iff.mp hx).1
    refine ex1 (hs k x Γ H hx h) fun Γ' zz=>Ac zz fun hb w=>?_
    refine ⟨Γ',hb,N8 w ?_ (fun _ _ h=>h) (fun _ _ _ h=>h)⟩
    intro Γ H h
    refine ⟨k+1,?_,lt,h⟩
    have:=congrArg List.tail e
    simpa using this
theorem Ra {chk:Hp -> Bool} {step:Val -> M (Option Val)} {Q:List Val -> Hp -> Prop} (I:List Val -> List Val -> Hp -> Prop) :
    ∀ (xs:List Val) (out:List Val) (H:Hp),I xs out H -> (∀ ys out H,I ys out H -> chk H=true) ->
    (∀ x ys out H,I (x :: ys) out H -> Wp (step x) H (fun r H=>I ys (out++r.toList) H) E) ->
    (∀ zs H,I [] (out++zs) H -> Q zs H) -> Wp (Ed chk step xs) H Q E
  | [],out,H,h,hc,_,hd=>by
    have:Ed chk step [] H=.ok [] H:=by
      exact if_pos (hc _ _ _ h)
    exact Wp.of_eq this (hd [] H (by simpa using h))
  | x :: xs,out,H,h,hc,hs,hd=>by
    have:Ed chk step (x :: xs) H=((step x).bnd fun r=>(Ed chk step xs).bnd fun ys=>.ret (match r with | some y=>y :: ys | none=>ys)) H:=by
      exact if_pos (hc _ _ _ h)
    unfold Wp;rw [this]
    show Wp _ H Q E
    rw [Ar]
    refine (hs _ _ _ _ h).mono ?_ (fun _ _ h=>h)
    intro r H h
    rw [Ar]
    simp only [Q9]
    refine Ra I xs _ H h hc hs ?_
    intro zs H h
    refine hd _ H ?_
    cases r with
    | none=>simpa using h
    | some y=>simpa using h
theorem Zr {Q:α -> Hp -> Prop} {m:M α} (h:Wp m H Q NoE):Wp (M.quiet m) H Q E:=by
  unfold Wp at h ⊢
  unfold M.quiet
  cases hm:m H with
  | ok a H'=>rw [hm] at h;exact h
  | exc c H'=>rw [hm] at h;exact h.elim
  | bad=>rw [hm] at h;exact h.elim
theorem Mp {elt it:ME} {cond:MEo} (h:wpE T Φ it Γ H (fun v H=>Dq (Cj v H) fun p =>
    Wp (Ed (chk p.2 p.1) (fun x=>(evalC T Φ cond (Γ++[some x])).bnd fun b=>match b with
        | true=>(Ai T Φ elt (Γ++[some x])).bnd fun y=>.ret (some y)
        | false=>.ret none) p.1) H (fun ys H=>ys.length < lid /\ Q (.loc H.length) (H++[.list ys])) NoE) E):wpE T Φ (.comp elt it cond) Γ H Q E:=by
  rw [<- A6] at h ⊢
  refine (Ar _ _).mpr (h.mono ?_ (fun _ _ h=>h))
  intro v H h
  rw [Ar,F8]
  cases hp:Cj v H with
  | none=>rw [hp] at h;exact h
  | some p =>
  rw [hp] at h
  show Wp _ _ _ _
  rw [Ar]
  refine Zr (Wp.mono h ?_ (fun _ _ h=>h))
  rintro ys H ⟨hl,q⟩
  rw [if_pos hl];exact q
theorem Rb {elt:ME} {Q:Option Val -> Hp -> Prop} (h:wpE T Φ elt Γ H (fun y H=>Q (some y) H) E) :
    Wp ((evalC T Φ .none Γ).bnd fun b=>match b with
        | true=>(Ai T Φ elt Γ).bnd fun y=>M.ret (some y)
        | false=>.ret none) H Q E:=by
  rw [<- A6] at h
  exact (Ar _ _).mpr (show Wp _ H Q E from (Ar _ _).mpr h)
theorem wp_step {elt c:ME} {Q:Option Val -> Hp -> Prop} (h:wpE T Φ c Γ H (fun v H=>D3 v fun b=>brB b (wpE T Φ elt Γ H (fun y H=>Q (some y) H) E) (Q none H)) E) :
    Wp ((evalC T Φ (.some c) Γ).bnd fun b=>match b with
        | true=>(Ai T Φ elt Γ).bnd fun y=>M.ret (some y)
        | false=>.ret none) H Q E:=by
  simp only [<- A6] at h
  rw [Ar]
  refine (Ar _ _).mpr (h.mono ?_ (fun _ _ h=>h))
  intro v H h
  cases v with
  | bool b =>
    cases b with
    | true=>exact (Ar _ _).mpr h
    | false=>exact h
  | _=>exact h
end
section
variable {T:Tab} {Φ:Funs} {Γ:Env'} {H:Hp}
variable {Q:Val -> Hp -> Prop} {E:Nat -> Hp -> Prop}
theorem Jr (x y:Int):Hh .add (.int x) (.int y) H Q E=Q (.int (x+y)) H:=rfl
theorem Rc (x y:Int):Hh .sub (.int x) (.int y) H Q E=Q (.int (x - y)) H:=rfl
theorem Ob (x y:Int):Hh .mul (.int x) (.int y) H Q E=((small x || small y)=true /\ Q (.int (x * y)) H):=rfl
theorem Js (x y:Int):Hh .fdiv (.int x) (.int y) H Q E=(¬ (y=0 \/ 1073741824 <= y.natAbs) /\ Q (.int (Int.fdiv x y)) H):=rfl
theorem Lj (x y:Int):Hh .mod (.int x) (.int y) H Q E=(¬ (y=0) /\ Q (.int (Int.fmod x y)) H):=rfl
theorem Ip (n:Int):Wp (bfV .range [.int n]) H Q E=((-1073741824 <= n /\ n <= 1073741824) /\ Q (.rng n) H):=Abb _ _
theorem B2 (ns:List Int):Wp (bfV .len [.script ns]) H Q E=Q (.int ns.length) H:=by rw [Mk,Q9]
theorem Hi (xs:List Val):Wp (bfV .len [.tup xs]) H Q E=Q (.int xs.length) H:=rfl
theorem Bj {l:Nat} {xs:List Val} (h:H[l]?=some (.list xs)):Wp (bfV .len [.loc l]) H Q E=Q (.int xs.length) H:=by
  unfold Wp;rw [S6 h]
theorem Abd (b:Bool):Wp (bfV .int [.bool b]) H Q E=Q (.int (if b=true then 1 else 0)) H:=rfl
theorem P5 (a b:Int):Wp (bfV .max2 [.int a,.int b]) H Q E=Q (.int (if b > a then b else a)) H:=rfl
theorem Mq (n:Nat) (i:Int):Az H n (.int i)=some (.int i):=by cases n <;> rfl
theorem Vw (n:Nat):Az H n .none=some .none:=by cases n <;> rfl
theorem Zs (x y:Int) (k:Bool -> Prop):Dq (C2 .eq (.int x) (.int y) H) k=k (decide (x=y)):=rfl
theorem Zt (x y:Int) (k:Bool -> Prop):Dq (C2 .ne (.int x) (.int y) H) k=k (!decide (x=y)):=rfl
theorem Abe (x y:Bool) (k:Bool -> Prop):Dq (C2 .ne (.bool x) (.bool y) H) k=k (!decide (x=y)):=rfl
theorem Oc (x y:Bool) (k:Bool -> Prop):Dq (C2 .isNot (.bool x) (.bool y) H) k=k (!decide (x=y)):=rfl
theorem Abf (x y:Bool) (k:Bool -> Prop):Dq (C2 .is (.bool x) (.bool y) H) k=k (decide (x=y)):=rfl
theorem Vx (x y:Int) (k:Bool -> Prop):Dq (C2 .lt (.int x) (.int y) H) k=k (decide (x < y)):=rfl
theorem S8 (x y:Int) (k:Bool -> Prop):Dq (C2 .gt (.int x) (.int y) H) k=k (decide (y < x)):=rfl
theorem Aea (x y:Int) (k:Bool -> Prop):Dq (C2 .le (.int x) (.int y) H) k=k (decide (x <= y)):=rfl
theorem Dx (k:Bool -> Prop):Dq (C2 .is .none .none H) k=k true:=rfl
theorem Db (i:Int) (k:Bool -> Prop):Dq (C2 .is (.int i) .none H) k=k false:=rfl
theorem D6 (k:Bool -> Prop):Dq (C2 .isNot .none .none H) k=k false:=rfl
theorem Et (i:Int) (k:Bool -> Prop):Dq (C2 .isNot (.int i) .none H) k=k true:=rfl
theorem Ag6 (v:Val) (t:Ty) (k:Kd) (h:Qo H v=some k) (ht:∀ c,t≠.cls c):Wp (A4 T v t) H Q E=Q (.bool (Aat t k)) H:=by
  have e:A4 T v t H=.ok (.bool (Aat t k)) H:=by
    unfold A4;rw [C4]
    cases t with
    | cls c=>exact absurd rfl (ht c)
    | _=>dsimp only;rw [h];rfl
  unfold Wp;rw [e]
theorem Hj (i:Int):Wp (A4 T (.int i) .int) H Q E=Q (.bool true) H:=rfl
theorem Gb (i:Int):Wp (A4 T (.int i) .bool) H Q E=Q (.bool false) H:=rfl
theorem Lk (i:Int):Wp (A4 T (.int i) .tuple) H Q E=Q (.bool false) H:=rfl
theorem Jt (i:Int):Wp (A4 T (.int i) .list) H Q E=Q (.bool false) H:=rfl
theorem Ju (i:Bool):Wp (A4 T (.bool i) .int) H Q E=Q (.bool true) H:=rfl
theorem H7 (i:Bool):Wp (A4 T (.bool i) .bool) H Q E=Q (.bool true) H:=rfl
theorem Jv (i:Bool):Wp (A4 T (.bool i) .tuple) H Q E=Q (.bool false) H:=rfl
theorem Jw:Wp (A4 T .none .tuple) H Q E=Q (.bool false) H:=rfl
theorem Jx:Wp (A4 T .none .int) H Q E=Q (.bool false) H:=rfl
theorem Ll (s:Str):Wp (A4 T (.str s) .tuple) H Q E=Q (.bool false) H:=rfl
theorem Lm (s:Str):Wp (A4 T (.str s) .int) H Q E=Q (.bool false) H:=rfl
theorem Hk (xs:List Val):Wp (A4 T (.tup xs) .tuple) H Q E=Q (.bool true) H:=rfl
theorem Ln (xs:List Val):Wp (A4 T (.tup xs) .int) H Q E=Q (.bool false) H:=rfl
theorem Aeb (l:Nat) (xs:List Val) (h:H[l]?=some (.list xs)):Wp (A4 T (.loc l) .list) H Q E=Q (.bool true) H :=
  Ag6 _ _ .list (Ain h) (by intro c h;cases h)
theorem Jy (x:Val) (xs:List Val):Wp (En (.tup (x :: xs)) (.int 0)) H Q E=Q x H:=rfl
theorem Hl (x y:Val) (xs:List Val):Wp (En (.tup (x :: y :: xs)) (.int 1)) H Q E=Q y H:=rfl
theorem Vy (x y z:Val) (xs:List Val):Wp (En (.tup (x :: y :: z :: xs)) (.int 2)) H Q E=Q z H:=rfl
theorem Od (k n:Nat) (h:k < n):Bh (k:Int) n=some k:=by
  unfold Bh
  rw [if_pos (by exact Aas),if_pos (by exact Ahw h)];rfl
theorem Vz (k:Int) (n:Nat) (h0:0 <= k) (h:k < n):Bh k n=some k.toNat:=by
  unfold Bh
  rw [if_pos h0,if_pos h]
theorem V0 {l:Nat} {xs:List Val} (h:H[l]?=some (.list xs)) {k:Int} {v:Val} (h0:0 <= k) (hk:xs[k.toNat]?=some v) (q:Q v H):Wp (En (.loc l) (.int k)) H Q E:=by
  have lt:=(List.getElem?_eq_some_iff.mp hk).1
  refine Wp.of_eq ?_ q
  unfold En;rw [C4]
  simp only [h,Vz k xs.length h0 (by exact o23 h0 lt),Option.bind_some,hk]
theorem P6 {l:Nat} {xs:List Val} (h:H[l]?=some (.list xs)):Ez .append (.loc l) H=some ():=if_pos (Nc h)
theorem S9 {l:Nat} {xs:List Val} (h:H[l]?=some (.list xs)):Ez .clear (.loc l) H=some ():=if_pos (Nc h)
theorem V3 {l:Nat} {xs:List Val} {v:Val} (h:H[l]?=some (.list xs)) (hl:xs.length < lid) (q:Q .none (H.set l (.list (xs++[v])))):Wp (bmV .append (.loc l) [v]) H Q E:=by
  refine Wp.of_eq ?_ q
  unfold bmV;simp only [h]
  exact if_pos hl
theorem Zu {l:Nat} {xs:List Val} (h:H[l]?=some (.list xs)) (q:Q .none (H.set l (.list []))):Wp (bmV .clear (.loc l) []) H Q E:=by
  refine Wp.of_eq ?_ q
  unfold bmV;simp only [h]
theorem Bk {i:Nat} {e:ME} {l:Nat} {xs:List Val} (hi:Γ[i]?=some (some (.loc l))) (h:H[l]?=some (.list xs))
    (q:wpE T Φ e Γ H (fun v H'=>∃ ys,H'[l]?=some (.list ys) /\ ys.length < lid /\ Q .none (H'.set l (.list (ys++[v])))) E):wpE T Φ (.bm (.var i) .append (.cons e .nil)) Γ H Q E:=by
  rw [N6,An]
  rw [Du,hi]
  show Dq (Ez _ _ _) _
  rw [P6 h]
  refine Mo q ?_ (fun _ _ h=>h)
  intro v H' zz
  refine ex1 zz fun ys zz=>As zz fun hy hl q=>?_
  exact V3 hy hl q
end
noncomputable def Ext (H H':Hp):Prop:=∃ K,H'=H++K
theorem Ext.refl (H:Hp):Ext H H:=⟨[],by simp⟩
theorem Ext.trans {H H1 H2:Hp}:Ext H H1 -> Ext H1 H2 -> Ext H H2
  | ⟨K,e⟩,⟨L,f⟩=>⟨K++L,by rw [f,e,List.append_assoc]⟩
theorem Ext.new {H H':Hp} (h:Ext H H') (o:HObj):Ext H (H'++[o]):=h.trans ⟨[o],rfl⟩
theorem Ext.get {H H':Hp} (h:Ext H H') {l:Nat} {o:HObj} (g:H[l]?=some o):H'[l]?=some o:=by
  obtain ⟨K,rfl⟩:=h
  rw [List.getElem?_append_left (List.getElem?_eq_some_iff.mp g).1];exact g
theorem Ext.len {H H':Hp} (h:Ext H H'):H.length <= H'.length:=by
  obtain ⟨K,rfl⟩:=h;simp
theorem Ext.set {H H':Hp} (h:Ext H H') {l:Nat} (hl:H.length <= l) (o:HObj):Ext H (H'.set l o):=by
  obtain ⟨K,rfl⟩:=h
  exact ⟨K.set (l - H.length) o,by rw [List.set_append_right _ _ hl]⟩
theorem Ax (H:Hp) (o:HObj):(H++[o])[H.length]?=some o:=by simp
theorem D7 {H:Hp} {l:Nat} {o:HObj} (g:H[l]?=some o):l < H.length:=(List.getElem?_eq_some_iff.mp g).1
theorem Ch {H:Hp} {l:Nat} {o:HObj} (o':HObj) (g:H[l]?=some o):(H.set l o')[l]?=some o':=by
  rw [List.getElem?_set_self (D7 g)]
theorem Ak {H:Hp} {l m:Nat} {o:HObj} (o':HObj) (hne:l≠m) (g:H[m]?=some o):(H.set l o')[m]?=some o:=by
  rw [List.getElem?_set_ne hne];exact g
theorem Ek {H:Hp} {l:Nat} {xs:List Val} (h:H[l]?=some (.list xs)):chk (some l) xs H=true:=by
  exact Afx h
theorem D8 {H:Hp} {l:Nat} {xs:List Val} (h:H[l]?=some (.list xs)):Cj (.loc l) H=some (xs,some l):=Ab6 h
theorem P7 {H:Hp} {l:Nat} {xs:List Val} (h:H[l]?=some (.list xs)):I8 (.loc l) H=some (xs,l):=Tw h
noncomputable def V4 (n:Int):List Val:=(List.range n.toNat).map (fun (k:Nat)=>.int (k:Int))
theorem Rd {n:Int} {k:Nat} {x:Val} (h:(V4 n)[k]?=some x):x=.int k /\ (k:Int) < n:=by
  unfold V4 at h
  rw [List.getElem?_map] at h
  cases e:(List.range n.toNat)[k]? with
  | none=>rw [e] at h;exact nomatch h
  | some j =>
    rw [e] at h
    obtain ⟨lt,g⟩:=List.getElem?_eq_some_iff.mp e
    simp at g lt h
    subst g
    exact ⟨h.symm,by assumption⟩
theorem Re (n:Int):(V4 n).length=n.toNat:=by simp [V4]
section
variable {T:Tab} {Φ:Funs} {Γ:Env'} {H:Hp} {QS:Env' -> Hp -> Prop} {R:Val -> Hp -> Prop} {ES:Nat -> Env' -> Hp -> Prop}
theorem Fc {s:MS} {ss:MSs} (P:Env' -> Hp -> Prop) (h:wpS T Φ s Γ H P R ES) (q:∀ Γ H,P Γ H -> wpSs T Φ ss Γ H QS R ES):wpSs T Φ (.cons s ss) Γ H QS R ES:=by
  skip;exact Zq h q (fun _ _ h=>h) (fun _ _ _ h=>h)
theorem A1 {i:Nat} {e:ME} {ss:MSs} (P:Val -> Hp -> Prop) (h:wpE T Φ e Γ H P NoE) (q:∀ v H,P v H -> wpSs T Φ ss (Γ.set i (some v)) H QS R ES):wpSs T Φ (.cons (.assign i e) ss) Γ H QS R ES:=by
  skip;exact Ao h q
theorem C0 {e:ME} {ss:MSs} (P:Hp -> Prop) (h:wpE T Φ e Γ H (fun _ H=>P H) NoE) (q:∀ H,P H -> wpSs T Φ ss Γ H QS R ES):wpSs T Φ (.cons (.expr e) ss) Γ H QS R ES:=by
  skip;exact Ao h (fun _=>q)
theorem Dv {c:ME} {t ss:MSs} (P:Hp -> Prop) (h:wpE T Φ c Γ H (fun v H=>v=.bool false /\ P H) NoE) (q:∀ H,P H -> wpSs T Φ ss Γ H QS R ES):wpSs T Φ (.cons (.ite c t .nil) ss) Γ H QS R ES:=by
  refine Ao h ?_
  rintro v H ⟨rfl,p⟩
  exact q H p
theorem V5 {c:ME} {t f ss:MSs} (P:Hp -> Prop) (h:wpE T Φ c Γ H (fun v H=>v=.bool true /\ P H) NoE) (q:∀ H,P H -> wpSs T Φ t Γ H (fun Γ H=>wpSs T Φ ss Γ H QS R ES) R ES):wpSs T Φ (.cons (.ite c t f) ss) Γ H QS R ES:=by
  refine Ao h ?_
  rintro v H ⟨rfl,p⟩
  exact q H p
theorem C1 {i:Nat} {e:ME} {body:MSs} {n:Int} (I:Nat -> Env' -> Hp -> Prop)
    (he:wpE T Φ e Γ H (fun v H'=>v=.int n /\ H'=H) NoE) (hn:-1073741824 <= n /\ n <= 1073741824) (h0:I 0 Γ H)
    (hs:∀ (k:Nat) Γ H,(k:Int) < n -> I k Γ H -> wpSs T Φ body (Γ.set i (some (.int k))) H (I (k+1)) R NoX)
    (hd:∀ Γ H,I n.toNat Γ H -> QS Γ H):wpS T Φ (.each i (.bf .range (.cons e .nil)) body) Γ H QS R ES:=by
  apply Io
  rw [D5,Am]
  refine Ao he ?_
  rintro v H' ⟨rfl,rfl⟩
  rw [Au,Ip]
  refine ⟨hn,?_⟩
  show WpS (Fo (chk none (V4 n)) _ _ (V4 n) _ _) _ _ _
  refine Fb I h0 ?_ (fun _ _ _ _ _=>rfl) ?_
  · rw [Re];exact hd
  · intro k x Γ H hx hi
    obtain ⟨hr0,lt⟩:=Rd hx;refine Eq.symm hr0▸?_
    exact ⟨_,rfl,hs k Γ H lt hi⟩
end
structure GAt (H:Hp) (l b s:Nat) (g:List (List Val)):Prop where
  top:H[l]?=some (.list ((List.range g.length).map fun i=>.loc (b+s * i)))
  row:∀ i r,g[i]?=some r -> H[b+s * i]?=some (.list r)
theorem GAt.ext {H H':Hp} {l b s:Nat} {g:List (List Val)} (x:GAt H l b s g) (e:Ext H H'):GAt H' l b s g:=⟨e.get x.top,fun i r h=>e.get (x.row i r h)⟩
theorem GAt.other {H:Hp} {l b s m:Nat} {g:List (List Val)} (x:GAt H l b s g) (o:HObj) (h1:m≠l) (h2:∀ i,i < g.length -> m≠b+s * i):GAt (H.set m o) l b s g :=
  ⟨Ak o h1 x.top,fun i r h=>Ak o (h2 i (List.getElem?_eq_some_iff.mp h).1) (x.row i r h)⟩
theorem GAt.item {H:Hp} {l b s:Nat} {g:List (List Val)} (x:GAt H l b s g) {i:Nat} (h:i < g.length):((List.range g.length).map fun i=>Val.loc (b+s * i))[i]?=some (.loc (b+s * i)):=by
  rw [List.getElem?_map,List.getElem?_range h];rfl
section
variable {T:Tab} {Φ:Funs} {Γ:Env'} {H:Hp} {Q:Val -> Hp -> Prop} {E:Nat -> Hp -> Prop}
theorem Iq {chk:Hp -> Bool} {step:Val -> M (Option Val)} {Q:List Val -> Hp -> Prop} {xs:List Val} (I:Nat -> List Val -> Hp -> Prop) (h0:I 0 [] H) (hc:∀ k out H,I k out H -> chk H=true)
    (hs:∀ k x out H,xs[k]?=some x -> I k out H -> Wp (step x) H (fun r H=>I (k+1) (out++r.toList) H) E) (hd:∀ zs H,I xs.length zs H -> Q zs H):Wp (Ed chk step xs) H Q E:=by
  refine Ra (fun ys out H=>∃ k,ys=xs.drop k /\ k <= xs.length /\ I k out H) xs [] H ⟨0,rfl,Nat.zero_le _,h0⟩ ?_ ?_ ?_
  · rintro ys out H ⟨k,_,_,h⟩;exact hc k out H h
  · intro x ys out H zz
    refine ex1 zz fun k zz=>As zz fun e l h=>?_
    have hx:xs[k]?=some x:=by
      have:=congrArg (fun z=>z[0]?) e
      simpa using this.symm
    refine (hs k x out H hx h).mono ?_ (fun _ _ h=>h)
    intro r H h
    refine ⟨k+1,?_,(List.getElem?_eq_some_iff.mp hx).1,h⟩
    have:=congrArg List.tail e
    simpa using this
  · intro zs H zz
    refine ex1 zz fun k zz=>As zz fun e l h=>?_
    have:k=xs.length:=by
      have:=congrArg List.length e
      simp at this;exact Aj2 this l
    subst this;exact hd _ _ h
theorem Jz {elt it:ME} {xs:List Val} {src:Option Nat} (P:Nat -> Val -> Prop) (hit:wpE T Φ it Γ H (fun v H'=>H'=H /\ Cj v H=some (xs,src)) NoE) (hck:chk src xs H=true) (hz:xs.length < lid)
    (he:∀ k x,xs[k]?=some x -> wpE T Φ elt (Γ++[some x]) H (fun v H'=>P k v /\ H'=H) NoE) (q:∀ ys,ys.length=xs.length -> (∀ k v,ys[k]?=some v -> P k v) -> Q (.loc H.length) (H++[.list ys])):wpE T Φ (.comp elt it .none) Γ H Q E:=by
  refine Mp (Ao hit ?_)
  rintro v H' ⟨e,hi⟩
  rw [e,hi]
  clear e
  refine Iq (fun k out H'=>H'=H /\ out.length=k /\ ∀ j v,out[j]?=some v -> P j v) ⟨rfl,rfl,fun j v h=>by cases h⟩ ?_ ?_ ?_
  · rintro k out _ ⟨hr0,_⟩;refine Eq.symm hr0▸?_;exact hck
  · rintro k x out _ hx ⟨hr1,hl,hp⟩;refine Eq.symm hr1▸?_
    refine Rb (Ao (he k x hx) ?_)
    rintro v _ ⟨hv,hr2⟩;refine hr2▸?_
    refine ⟨rfl,by rw [List.length_append,hl];rfl,fun j w hj=>?_⟩
    by_cases c:j < out.length
    · rw [List.getElem?_append_left c] at hj;exact hp j w hj
    · rw [List.getElem?_append_right (by exact Aj3 hl c)] at hj
      have:j - out.length=0:=by
        have:=(List.getElem?_eq_some_iff.mp hj).1
        simp at this;assumption
      rw [this] at hj
      cases hj
      have:j=k:=by exact Aj4 this hl c
      rw [this];exact hv
  · rintro zs _ ⟨hr3,hl,hp⟩;refine Eq.symm hr3▸?_
    have hl:zs.length=xs.length:=hl
    exact ⟨by omega,q zs hl hp⟩
theorem V6 {elt it:ME} {xs:List Val} {src:Option Nat} (s:Nat) (P:Nat -> List Val -> Prop) (hit:wpE T Φ it Γ H (fun v H'=>H'=H /\ Cj v H=some (xs,src)) NoE) (hck:∀ K,Ext H K -> chk src xs K=true) (hz:xs.length < lid)
    (he:∀ k x K,xs[k]?=some x -> Ext H K -> wpE T Φ elt (Γ++[some x]) K (fun v K'=>∃ r,P k r /\ v=.loc (K.length+s) /\ Ext K K' /\ K'.length=K.length+s+1 /\ K'[K.length+s]?=some (.list r)) NoE)
    (q:∀ g K,g.length=xs.length -> (∀ k r,g[k]?=some r -> P k r) -> Ext H K -> GAt K (H.length+(s+1) * g.length) (H.length+s) (s+1) g -> K.length=H.length+(s+1) * g.length+1 -> Q (.loc (H.length+(s+1) * g.length)) K):wpE T Φ (.comp elt it .none) Γ H Q E:=by
  refine Mp (Ao hit ?_)
  rintro v H' ⟨e,hi⟩
  rw [e,hi]
  clear e
  refine Iq (fun k out K=>Ext H K /\ K.length=H.length+(s+1) * k /\ out=(List.range k).map (fun i=>Val.loc (H.length+s+(s+1) * i)) /\ ∃ g:List (List Val),g.length=k /\ (∀ j r,g[j]?=some r -> P j r /\ K[H.length+s+(s+1) * j]?=some (.list r)))
    ⟨Ext.refl H,rfl,rfl,[],rfl,fun j r h=>by cases h⟩ ?_ ?_ ?_
  · rintro k out K ⟨e,_⟩;exact hck K e
  · intro k x out K hx zz
    refine By zz fun e hl zr2 zz=>ex1 zz fun g zz=>Ac zz fun hg hp=>?_;subst zr2
    refine Rb (Ao (he k x K hx e) ?_)
    intro v K' zz
    refine ex1 zz fun r zz=>Fe zz fun pr zr2 e' hl' hr=>?_;subst zr2
    have pos:K.length+s=H.length+s+(s+1) * k:=by exact Aol hl
    refine ⟨e.trans e',by rw [hl',hl,Nat.mul_succ];exact Aom,?_,g++[r],by rw [List.length_append,hg];rfl,fun j w hj=>?_⟩
    · rw [List.range_succ,List.map_append,pos];rfl
    · by_cases c:j < g.length
      · rw [List.getElem?_append_left c] at hj
        exact ⟨(hp j w hj).1,e'.get (hp j w hj).2⟩
      · rw [List.getElem?_append_right (by exact Aj3 hg c)] at hj
        have:j - g.length=0:=by
          have:=(List.getElem?_eq_some_iff.mp hj).1
          simp at this;assumption
        rw [this] at hj
        cases hj
        have:j=k:=by exact Aj4 this hg c
        rw [this,<- pos];exact ⟨pr,hr⟩
  · intro zs K zz
    refine By zz fun e hl zr2 zz=>ex1 zz fun g zz=>Ac zz fun hg hp=>?_;subst zr2
    have gl:g.length=xs.length:=hg
    refine ⟨by rw [List.length_map,List.length_range];exact hz,?_⟩
    rw [hl,<- gl]
    refine q g _ gl (fun k r h=>(hp k r h).1) (e.new _) ⟨?_,fun i r h=>Ext.get ⟨_,rfl⟩ (hp i r h).2⟩ (by rw [List.length_append,hl,<- gl];rfl)
    have:=Ax K (.list ((List.range g.length).map fun i=>Val.loc (H.length+s+(s+1) * i)))
    rw [hl,<- gl] at this
    exact this
theorem Abg {it:ME} {n:Nat} (hn:n <= 1000) (h:wpE T Φ it Γ H (fun v H'=>v=.int (n:Int) /\ H'=H) NoE):wpE T Φ (.bf .range (.cons it .nil)) Γ H (fun v H'=>H'=H /\ Cj v H=some (V4 n,none)) NoE:=by
  rw [D5,Am]
  refine Ao h ?_
  rintro v _ ⟨rfl,rfl⟩
  rw [Au,Ip]
  exact ⟨⟨by exact Aon hn,by exact Aoo hn⟩,rfl,rfl⟩
theorem Rf {n k:Nat} {x:Val} (h:(V4 n)[k]?=some x):x=.int (k:Int) /\ k < n:=by
  obtain ⟨a,b⟩:=Rd h
  exact ⟨a,by exact Aar b⟩
theorem Ir (n:Nat):(V4 n).length=n:=by rw [Re];exact Aop
theorem Mr {it:ME} {k l b s:Nat} {g:List (List Val)} (hk:Γ.length=k) (G:GAt H l b s g) (hz:g.length < lid) (hit:wpE T Φ it Γ H (fun v H'=>v=.loc l /\ H'=H) NoE)
    (q:∀ K,Ext H K -> GAt K (H.length+g.length) H.length 1 g -> K.length=H.length+g.length+1 -> Q (.loc (H.length+g.length)) K):wpE T Φ (.comp (.bf .list (.cons (.var k) .nil)) it .none) Γ H Q E:=by
  refine V6 (xs:=(List.range g.length).map fun i=>Val.loc (b+s * i)) (src:=some l) 0 (fun j r=>g[j]?=some r) (Ao hit ?_) (fun K e=>Ek (e.get G.top)) (by rw [List.length_map,List.length_range];exact hz) ?_ ?_
  · rintro v _ ⟨rfl,rfl⟩;exact ⟨rfl,D8 G.top⟩
  · intro j x K hx e
    rw [List.getElem?_map] at hx
    cases hj:(List.range g.length)[j]? with
    | none=>rw [hj] at hx;exact nomatch hx
    | some i =>
      rw [hj] at hx
      obtain ⟨lt,ej⟩:=List.getElem?_eq_some_iff.mp hj
      rw [List.getElem_range] at ej
      subst ej
      cases hx
      have lt':j < g.length:=by rw [List.length_range] at lt;exact lt
      have hg:g[j]?=some g[j]:=List.getElem?_eq_getElem lt'
      have hr:=e.get (G.row j _ hg)
      rw [D5,Am,An,Du,List.getElem?_append_right (by exact Aib hk),hk,Nat.sub_self]
      have:bfV .list [.loc (b+s * j)] K=.ok (.loc K.length) (K++[.list g[j]]):=by
        show (match B3 (.loc (b+s * j)) K with | some xs=>M.alloc (.list xs) K | none=>.bad)=_
        rw [show B3 (.loc (b+s * j)) K=some g[j] by simp only [B3,hr]];rfl
      exact Wp.of_eq this ⟨_,hg,rfl,⟨_,rfl⟩,by rw [List.length_append];rfl,Ax K _⟩
  · intro g' K hl hp e G' hK
    have:g'=g:=by
      rw [List.length_map,List.length_range] at hl
      refine List.ext_getElem? fun i=>?_
      cases h:g'[i]? with
      | some r=>rw [hp i r h]
      | none =>
        rw [List.getElem?_eq_none_iff] at h
        rw [List.getElem?_eq_none (by exact Aoq hK hl h)]
    subst this
    rw [Nat.zero_add,Nat.one_mul] at G' hK ⊢
    exact q K e G' hK
end
end Mine.Internal.Pure
namespace Mine.Internal
open PySem
noncomputable abbrev zT12 : MSs := .cons (.expr (.bm (.attr (.var 0) 3) .dpop (.cons (.var 1) .nil))) .nil
noncomputable abbrev zT11 : MSs := .cons (.ite (.cmp .notin (.var 1) (.glob 2)) (.cons (.raise 1 "no height") .nil) .nil) .nil
noncomputable abbrev zT10 : MSs := .cons (.expr (.bm (.var 3) .append (.cons (.comp (.call 9 (.cons (.var 6) (.cons (.var 2) .nil))) (.var 5) .none) .nil))) .nil
noncomputable abbrev zT9 : MSs := .cons (.each 3 (.var 2) (.cons (.ite (.not (.call 3 (.cons (.var 3) .nil))) (.cons (.raise 2 "a height or None is wanted") .nil) .nil) .nil)) .nil
noncomputable abbrev zT8 : MSs := .cons (.ite (.cmp .ne (.bf .len (.cons (.var 1) .nil)) (.bf .len (.cons (.sub (.var 0) (.int 0)) .nil))) (.cons (.raise 1 "all rows are as long") .nil) .nil) .nil
noncomputable abbrev zT7 : MSs := .cons (.assign 2 (.bf .int (.cons (.var 0) .nil))) (.cons (.ite (.cmp .gt (.var 2) (.glob 1)) (.cons (.raise 1 "too great a height") .nil) .nil) (.cons (.ret (.some (.var 2))) .nil))
noncomputable abbrev zT6 : MSs := .cons (.ite (.cmp .isin (.tup (.cons (.var 3) (.cons (.var 5) .nil))) (.var 1)) (.cons (.assign 7 (.bin .add (.var 7) (.str "*"))) .nil) .nil) (.cons (.expr (.bm (.var 4) .append (.cons (.var 7) .nil))) .nil)
noncomputable abbrev zT5 : MSs := .cons (.ite (.or (.not (.isinst (.var 1) .list)) (.not (.call 0 (.cons (.bf .len (.cons (.var 1) .nil)) (.cons (.int 1) (.cons (.glob 0) .nil)))))) (.cons (.raise 1 "a row is a list of heights") .nil) .nil) .nil
noncomputable abbrev zT4 : MSs := .cons (.expr (.bm (.var 4) .append (.cons (.bm (.str " ") .join (.cons (.comp (.call 23 (.cons (.var 1) (.cons (.var 2) (.cons (.tup (.cons (.var 5) (.cons (.var 13) .nil))) .nil)))) (.bf .range (.cons (.bf .len (.cons (.sub (.var 1) (.int 0)) .nil)) .nil)) .none) .nil)) .nil))) .nil
noncomputable abbrev zT3 : MSs := .cons (.assign 7 (.bin .add (.bin .mul (.var 5) (.bf .len (.cons (.sub (.var 1) (.int 0)) .nil))) (.var 6))) (.cons (.ite (.and (.cmp .isNot (.sub (.sub (.var 1) (.var 5)) (.var 6)) .none) (.cmp .eq (.bin .mod (.bin .add (.var 2) (.bin .mul (.var 7) (.bin .add (.int 1) (.bin .mod (.bin .fdiv (.var 2) (.int 12)) (.int 5))))) (.var 3)) (.int 0))) (.cons (.expr (.bm (.var 4) .append (.cons (.tup (.cons (.var 5) (.cons (.var 6) .nil))) .nil))) .nil) .nil) .nil)
noncomputable abbrev zT2 : MSs := .cons (.ite (.or (.cmp .ne (.umeth (.var 8) 5 .nil) (.var 11)) (.cmp .ne (.umeth (.var 8) 4 .nil) (.sset (.bin .add (.var 2) (.list (.cons (.var 10) .nil)))))) (.cons (.ret (.some (.bool false))) .nil) .nil) (.cons (.expr (.umeth (.var 8) 7 (.cons (.var 10) .nil))) (.cons (.assign 12 (.comp (.var 13) (.var 2) (.some (.cmp .ne (.var 13) (.var 10))))) (.cons (.ret (.some (.and (.cmp .eq (.umeth (.var 8) 5 .nil) (.var 11)) (.and (.cmp .eq (.umeth (.var 8) 4 .nil) (.var 12)) (.and (.cmp .eq (.umeth (.var 3) 5 .nil) (.var 1)) (.cmp .eq (.umeth (.var 3) 4 .nil) (.var 2))))))) .nil)))
noncomputable abbrev zT1 : MSs := .cons (.assign 4 (.list .nil)) (.cons (.each 5 (.bf .range (.cons (.attr (.var 0) 1) .nil)) (.cons (.assign 6 (.umeth (.var 0) 2 (.cons (.tup (.cons (.var 3) (.cons (.var 5) .nil))) .nil))) (.cons (.assign 7 (.str "#")) (.cons (.ite (.cmp .isNot (.var 6) .none) (.cons (.assign 7 (.bf .str (.cons (.var 6) .nil))) .nil) .nil) zT6)))) (.cons (.expr (.bm (.var 2) .append (.cons (.bm (.str " ") .join (.cons (.var 4) .nil)) .nil))) .nil))
noncomputable abbrev zT0 : MSs := .cons (.assign 6 (.list .nil)) (.cons (.eachEnum 7 8 (.bm (.var 5) .split (.cons (.str " ") .nil)) (.cons (.ite (.cmp .eq (.var 8) (.str "#")) (.cons (.expr (.bm (.var 6) .append (.cons .none .nil))) .nil) (.cons (.ite (.cmp .eq (.slice (.var 8) (.some (.neg (.int 1))) .none) (.str "*")) (.cons (.expr (.bm (.var 6) .append (.cons (.call 5 (.cons (.slice (.var 8) .none (.some (.neg (.int 1)))) .nil)) .nil))) (.cons (.expr (.bm (.var 2) .append (.cons (.tup (.cons (.var 4) (.cons (.var 7) .nil))) .nil))) .nil)) (.cons (.expr (.bm (.var 6) .append (.cons (.call 5 (.cons (.var 8) .nil)) .nil))) .nil)) .nil)) .nil)) (.cons (.expr (.bm (.var 1) .append (.cons (.var 6) .nil))) .nil))
noncomputable def Aec:MFun:=⟨3,0,(.cons (.ite (.or (.not (.isinst (.var 0) .int)) (.isinst (.var 0) .bool)) (.cons (.ret (.some (.bool false))) .nil) .nil) (.cons (.ret (.some (.cmp2 .le .le (.var 1) (.var 0) (.var 2)))) .nil))⟩
noncomputable def Aed:MFun:=⟨3,0,(.cons (.ite (.or (.not (.isinst (.var 2) .tuple)) (.cmp .ne (.bf .len (.cons (.var 2) .nil)) (.int 2))) (.cons (.ret (.some (.bool false))) .nil) .nil) (.cons (.ret (.some (.and (.call 0 (.cons (.sub (.var 2) (.int 0)) (.cons (.int 0) (.cons (.bin .sub (.var 0) (.int 1)) .nil)))) (.call 0 (.cons (.sub (.var 2) (.int 1)) (.cons (.int 0) (.cons (.bin .sub (.var 1) (.int 1)) .nil))))))) .nil))⟩
noncomputable def Aee:MFun:=⟨2,3,(.cons (.assign 2 (.list .nil)) (.cons (.each 3 (.bf .range (.cons (.var 0) .nil)) (.cons (.each 4 (.bf .range (.cons (.var 1) .nil)) (.cons (.expr (.bm (.var 2) .append (.cons (.tup (.cons (.var 3) (.cons (.var 4) .nil))) .nil))) .nil)) .nil)) (.cons (.ret (.some (.var 2))) .nil)))⟩
noncomputable def Aef:MFun:=⟨1,0,(.cons (.ret (.some (.or (.cmp .is (.var 0) .none) (.call 0 (.cons (.var 0) (.cons (.int 0) (.cons (.glob 1) .nil))))))) .nil)⟩
noncomputable def Ag7:MFun:=⟨1,1,(.cons (.ite (.or (.not (.isinst (.var 0) .list)) (.not (.call 0 (.cons (.bf .len (.cons (.var 0) .nil)) (.cons (.int 1) (.cons (.glob 0) .nil)))))) (.cons (.raise 1 "a list of rows is wanted") .nil) .nil) (.cons (.each 1 (.var 0) zT5) (.cons (.each 1 (.var 0) zT8) .nil)))⟩
noncomputable def Aeg:MFun:=⟨1,2,(.cons (.ite (.or (.cmp .eq (.var 0) (.str "")) (.cmp .gt (.bf .len (.cons (.var 0) .nil)) (.bf .len (.cons (.bf .str (.cons (.glob 1) .nil)) .nil)))) (.cons (.raise 1 "no height") .nil) .nil) (.cons (.each 1 (.var 0) zT11) (.cons (.ite (.and (.cmp .eq (.sub (.var 0) (.int 0)) (.str "0")) (.cmp .gt (.bf .len (.cons (.var 0) .nil)) (.int 1))) (.cons (.raise 1 "no height") .nil) .nil) zT7)))⟩
noncomputable def Aeh:MFun:=⟨1,10,(.cons (.ite (.not (.isinst (.var 0) .str)) (.cons (.raise 1 "a text is wanted") .nil) .nil) (.cons (.assign 1 (.list .nil)) (.cons (.assign 2 (.list .nil)) (.cons (.assign 3 (.bm (.var 0) .split (.cons (.str "\n") .nil))) (.cons (.ite (.cmp .gt (.bf .len (.cons (.var 3) .nil)) (.glob 0)) (.cons (.raise 1 "too many rows") .nil) .nil) (.cons (.eachEnum 4 5 (.var 3) zT0) (.cons (.assign 9 (.new 5 (.cons (.var 1) .nil))) (.cons (.each 10 (.var 2) (.cons (.expr (.umeth (.var 9) 3 (.cons (.var 10) .nil))) .nil)) (.cons (.ret (.some (.var 9))) .nil)))))))))⟩
noncomputable def Aei:MFun:=⟨2,0,(.cons (.ite (.cmp .lt (.var 1) (.bf .len (.cons (.var 0) .nil))) (.cons (.ret (.some (.sub (.var 0) (.var 1)))) .nil) .nil) (.cons (.ret (.some (.int 0))) .nil))⟩
noncomputable def V7:MFun:=⟨1,0,(.cons (.ite (.cmp .eq (.bin .mod (.bin .fdiv (.var 0) (.int 20)) (.int 8)) (.int 1)) (.cons (.ret (.some (.sub (.list (.cons (.tup (.cons (.int 1) (.cons (.int 30) .nil))) (.cons (.tup (.cons (.int 30) (.cons (.int 1) .nil))) (.cons (.tup (.cons (.int 5) (.cons (.int 5) .nil))) (.cons (.tup (.cons (.int 2) (.cons (.int 12) .nil))) (.cons (.tup (.cons (.int 2) (.cons (.int 30) .nil))) (.cons (.tup (.cons (.int 30) (.cons (.int 2) .nil))) (.cons (.tup (.cons (.int 6) (.cons (.int 7) .nil))) (.cons (.tup (.cons (.int 7) (.cons (.int 9) .nil))) .nil))))))))) (.bin .mod (.bin .fdiv (.var 0) (.int 160)) (.int 8))))) .nil) .nil) (.cons (.ret (.some (.tup (.cons (.bin .add (.int 1) (.bin .mod (.var 0) (.int 4))) (.cons (.bin .add (.int 1) (.bin .mod (.bin .fdiv (.var 0) (.int 4)) (.int 5))) .nil))))) .nil))⟩
noncomputable def Aej:MFun:=⟨2,0,(.cons (.ite (.cmp .eq (.bin .mod (.var 0) (.int 9)) (.int 8)) (.cons (.ret (.some .none)) .nil) .nil) (.cons (.ite (.cmp .eq (.var 1) (.int 0)) (.cons (.ret (.some (.bin .mod (.bin .fdiv (.var 0) (.int 9)) (.int 3)))) .nil) .nil) (.cons (.ite (.cmp .eq (.var 1) (.int 1)) (.cons (.ret (.some (.bin .mod (.bin .fdiv (.var 0) (.int 9)) (.int 12)))) .nil) .nil) (.cons (.ite (.cmp .eq (.var 1) (.int 2)) (.cons (.ret (.some (.bin .mod (.bin .fdiv (.var 0) (.int 9)) (.int 1000000001)))) .nil) .nil) (.cons (.ret (.some (.bin .sub (.int 1000000000) (.bin .mod (.bin .fdiv (.var 0) (.int 9)) (.int 2))))) .nil)))))⟩
noncomputable def Oe:MFun:=⟨2,0,(.cons (.ite (.cmp .lt (.bin .add (.var 1) (.int 3)) (.bf .len (.cons (.var 0) .nil))) (.cons (.ret (.some (.sub (.var 0) (.bin .add (.var 1) (.int 3))))) .nil) .nil) (.cons (.ret (.some (.bin .add (.bin .add (.bin .mul (.int 7) (.call 7 (.cons (.var 0) (.cons (.int 1) .nil)))) (.bin .mul (.bin .mul (.call 7 (.cons (.var 0) (.cons (.int 2) .nil))) (.var 1)) (.var 1))) (.bin .mul (.int 13) (.var 1))))) .nil))⟩
noncomputable def Abh:MFun:=⟨1,5,(.cons (.assign 1 (.call 8 (.cons (.call 7 (.cons (.var 0) (.cons (.int 0) .nil))) .nil))) (.cons (.assign 2 (.bin .mod (.call 7 (.cons (.var 0) (.cons (.int 1) .nil))) (.int 4))) (.cons (.assign 3 (.list .nil)) (.cons (.each 4 (.bf .range (.cons (.sub (.var 1) (.int 0)) .nil)) (.cons (.assign 5 (.comp (.call 10 (.cons (.var 0) (.cons (.bin .add (.bin .mul (.var 4) (.sub (.var 1) (.int 1))) (.var 6)) .nil))) (.bf .range (.cons (.sub (.var 1) (.int 1)) .nil)) .none)) zT10)) (.cons (.ret (.some (.var 3))) .nil)))))⟩
noncomputable def Abi:MFun:=⟨2,6,(.cons (.assign 2 (.call 7 (.cons (.var 0) (.cons (.int 2) .nil)))) (.cons (.assign 3 (.sub (.list (.cons (.int 2) (.cons (.int 3) (.cons (.int 5) (.cons (.int 9) (.cons (.int 14) .nil)))))) (.bin .mod (.bin .fdiv (.var 2) (.int 60)) (.int 5)))) (.cons (.assign 4 (.list .nil)) (.cons (.each 5 (.bf .range (.cons (.bf .len (.cons (.var 1) .nil)) .nil)) (.cons (.each 6 (.bf .range (.cons (.bf .len (.cons (.sub (.var 1) (.int 0)) .nil)) .nil)) zT3) .nil)) (.cons (.ret (.some (.var 4))) .nil)))))⟩
noncomputable def Abj:MFun:=⟨1,0,(.cons (.expr (.bm (.umeth (.var 0) 4 .nil) .clear .nil)) (.cons (.ret (.some (.call 22 (.cons (.var 0) .nil)))) .nil))⟩
noncomputable def Abk:MFun:=⟨2,3,(.cons (.assign 2 (.comp (.bf .list (.cons (.var 5) .nil)) (.var 0) .none)) (.cons (.setitem (.sub (.var 2) (.int 0)) (.int 0) (.int 7)) (.cons (.assign 3 (.new 5 (.cons (.var 2) .nil))) (.cons (.expr (.umeth (.var 3) 3 (.cons (.tup (.cons (.int 0) (.cons (.int 0) .nil))) .nil))) (.cons (.expr (.call 13 (.cons (.var 3) .nil))) (.cons (.expr (.umeth (.var 3) 7 (.cons (.tup (.cons (.int 0) (.cons (.int 0) .nil))) .nil))) (.cons (.expr (.call 13 (.cons (.var 3) .nil))) (.cons (.expr (.umeth (.var 3) 6 (.cons (.tup (.cons (.int 0) (.cons (.int 0) .nil))) (.cons (.sub (.sub (.var 0) (.int 0)) (.int 0)) .nil)))) (.cons (.expr (.call 13 (.cons (.var 3) .nil))) (.cons (.each 4 (.var 1) (.cons (.expr (.umeth (.var 3) 3 (.cons (.var 4) .nil))) .nil)) (.cons (.ret (.some (.var 3))) .nil)))))))))))⟩
noncomputable def Abl:MFun:=⟨1,12,(.cons (.assign 1 (.call 11 (.cons (.var 0) .nil))) (.cons (.assign 2 (.call 12 (.cons (.var 0) (.cons (.var 1) .nil)))) (.cons (.assign 3 (.call 14 (.cons (.var 1) (.cons (.var 2) .nil)))) (.cons (.assign 4 (.list .nil)) (.cons (.each 5 (.bf .range (.cons (.bf .len (.cons (.var 1) .nil)) .nil)) zT4) (.cons (.assign 6 (.bm (.str "\n") .join (.cons (.var 4) .nil))) (.cons (.assign 7 (.call 22 (.cons (.var 3) .nil))) (.cons (.ite (.or (.not (.isinst (.var 7) .str)) (.cmp .ne (.var 7) (.var 6))) (.cons (.ret (.some (.bool false))) .nil) .nil) (.cons (.assign 8 (.call 6 (.cons (.var 6) .nil))) (.cons (.ite (.or (.not (.isinst (.var 8) (.cls 5))) (.or (.cmp .ne (.umeth (.var 8) 5 .nil) (.var 1)) (.cmp .ne (.umeth (.var 8) 4 .nil) (.var 2)))) (.cons (.ret (.some (.bool false))) .nil) .nil) (.cons (.ite (.or (.cmp .ne (.umeth (.var 3) 5 .nil) (.var 1)) (.or (.cmp .ne (.umeth (.var 3) 4 .nil) (.var 2)) (.cmp .ne (.call 22 (.cons (.var 8) .nil)) (.var 6)))) (.cons (.ret (.some (.bool false))) .nil) .nil) (.cons (.assign 9 (.call 7 (.cons (.var 0) (.cons (.bf .max2 (.cons (.int 0) (.cons (.bin .sub (.bf .len (.cons (.var 0) .nil)) (.int 1)) .nil))) .nil)))) (.cons (.assign 10 (.tup (.cons (.bin .mod (.var 9) (.bf .len (.cons (.var 1) .nil))) (.cons (.bin .mod (.bin .fdiv (.var 9) (.int 31)) (.bf .len (.cons (.sub (.var 1) (.int 0)) .nil))) .nil)))) (.cons (.assign 11 (.comp (.bf .list (.cons (.var 13) .nil)) (.var 1) .none)) (.cons (.setitem (.sub (.var 11) (.sub (.var 10) (.int 0))) (.sub (.var 10) (.int 1)) (.int 7)) (.cons (.expr (.umeth (.var 8) 6 (.cons (.var 10) (.cons (.int 7) .nil)))) (.cons (.expr (.umeth (.var 8) 3 (.cons (.var 10) .nil))) zT2)))))))))))))))))⟩
noncomputable def Abm:MFun:=⟨2,2,(.cons (.expr (.call 4 (.cons (.var 1) .nil))) (.cons (.each 2 (.var 1) zT9) (.cons (.setattr (.var 0) 0 (.bf .len (.cons (.var 1) .nil))) (.cons (.setattr (.var 0) 1 (.bf .len (.cons (.sub (.var 1) (.int 0)) .nil))) (.cons (.setattr (.var 0) 2 (.comp (.bf .list (.cons (.var 4) .nil)) (.var 1) .none)) (.cons (.setattr (.var 0) 3 .dict) .nil))))))⟩
noncomputable def V8:MFun:=⟨2,0,(.cons (.ite (.not (.call 1 (.cons (.attr (.var 0) 0) (.cons (.attr (.var 0) 1) (.cons (.var 1) .nil))))) (.cons (.raise 3 "no such cell") .nil) .nil) .nil)⟩
noncomputable def Abn:MFun:=⟨2,0,(.cons (.expr (.umeth (.var 0) 1 (.cons (.var 1) .nil))) (.cons (.ret (.some (.sub (.sub (.attr (.var 0) 2) (.sub (.var 1) (.int 0))) (.sub (.var 1) (.int 1))))) .nil))⟩
noncomputable def Abo:MFun:=⟨2,0,(.cons (.expr (.umeth (.var 0) 1 (.cons (.var 1) .nil))) (.cons (.ite (.cmp .is (.sub (.sub (.attr (.var 0) 2) (.sub (.var 1) (.int 0))) (.sub (.var 1) (.int 1))) .none) (.cons (.raise 4 "stone is no drain") .nil) .nil) (.cons (.setitem (.attr (.var 0) 3) (.var 1) (.bool true)) .nil)))⟩
noncomputable def V9:MFun:=⟨1,0,(.cons (.ret (.some (.comp (.var 1) (.call 2 (.cons (.attr (.var 0) 0) (.cons (.attr (.var 0) 1) .nil))) (.some (.cmp .isin (.var 1) (.attr (.var 0) 3)))))) .nil)⟩
noncomputable def Abp:MFun:=⟨1,0,(.cons (.ret (.some (.comp (.bf .list (.cons (.var 1) .nil)) (.attr (.var 0) 2) .none))) .nil)⟩
noncomputable def Abq:MFun:=⟨1,7,(.cons (.assign 1 (.umeth (.var 0) 4 .nil)) (.cons (.assign 2 (.list .nil)) (.cons (.each 3 (.bf .range (.cons (.attr (.var 0) 0) .nil)) zT1) (.cons (.ret (.some (.bm (.str "\n") .join (.cons (.var 2) .nil)))) .nil))))⟩
noncomputable def Abr:MFun:=⟨3,1,(.cons (.assign 3 (.sub (.sub (.var 0) (.sub (.var 2) (.int 0))) (.sub (.var 2) (.int 1)))) (.cons (.ite (.cmp .is (.var 3) .none) (.cons (.ret (.some (.str "#"))) .nil) .nil) (.cons (.ite (.cmp .isin (.var 2) (.var 1)) (.cons (.ret (.some (.bin .add (.bf .str (.cons (.var 3) .nil)) (.str "*")))) .nil) .nil) (.cons (.ret (.some (.bf .str (.cons (.var 3) .nil)))) .nil))))⟩
noncomputable def Abs:MFun:=⟨3,0,(.cons (.expr (.umeth (.var 0) 1 (.cons (.var 1) .nil))) (.cons (.ite (.not (.call 3 (.cons (.var 2) .nil))) (.cons (.raise 2 "a height or None is wanted") .nil) .nil) (.cons (.setitem (.sub (.attr (.var 0) 2) (.sub (.var 1) (.int 0))) (.sub (.var 1) (.int 1)) (.var 2)) (.cons (.ite (.and (.cmp .is (.var 2) .none) (.cmp .isin (.var 1) (.attr (.var 0) 3))) zT12 .nil) .nil))))⟩
noncomputable def Abt:MFun:=⟨2,0,(.cons (.expr (.umeth (.var 0) 1 (.cons (.var 1) .nil))) (.cons (.ite (.cmp .notin (.var 1) (.attr (.var 0) 3)) (.cons (.raise 4 "no drain") .nil) .nil) zT12))⟩
noncomputable def T_12:Tab:=⟨[Aec,Aed,Aee,Aef,Ag7,Aeg,Aeh,Aei,V7,Aej,Oe,Abh,Abi,Abj,Abk,Abl,Abm,V8,Abn,Abo,V9,Abp,Abq,Abr,Abs,Abt],[[],[],[],[],[],[(0,16),(1,17),(2,18),(3,19),(4,20),(5,21),(6,24),(7,25)],[]],[[0,6],[1,0,6],[2,0,6],[3,0,6],[4,0,6],[5],[6]],[.int 30,.int 1000000000,.str "0123456789"]⟩
noncomputable def N_12:Names:=⟨[("whole",0),("lies_in",1),("all_cells",2),("is_height",3),("look_at_rows",4),("height_of",5),("read",6),("_law_cell_at",7),("_law_size",8),("_law_height_by",9),("_law_number",10),("_law_grid",11),("_law_drains",12),("_law_asked",13),("_law_land",14),("law",15),("shown",22),("_law_word",23)],[("LandError",0),("NoLand",1),("NoHeight",2),("NoCell",3),("NoDrain",4),("Land",5),("ValueError",6)],[("MOST_SIDE",0),("MOST_HEIGHT",1),("FIGURES",2)],[("rows",0),("columns",1),("grid",2),("sinks",3)],[("__init__",0),("look_at",1),("height",2),("opened",3),("drains",4),("heights",5),("raised",6),("shut",7)]⟩
noncomputable def V_12:List (List Str):=[["thing","low","high"],["rows","columns","cell"],["rows","columns","found","row","column"],["thing"],["heights","row"],["figures","sign","number"],["text","grid","drains","lines","row","line","cells","column","part","land","cell"],["_law_script","_law_k"],["_law_cell"],["_law_number_here","_law_kind"],["_law_script","_law_k"],["_law_script","_law_size_here","_law_kind","_law_rows","_law_row","_law_numbers"],["_law_script","_law_rows","_law_cell","_law_every","_law_found","_law_row","_law_column","_law_at"],["_law_land_here"],["_law_rows","_law_drains_here","_law_first","_law_land_here","_law_cell"],["_law_script","_law_rows","_law_drains_here","_law_land_here","_law_lines","_law_row","_law_text","_law_told","_law_other","_law_last","_law_place","_law_due","_law_left"],["self","heights","row","one"],["self","cell"],["self","cell"],["self","cell"],["self"],["self"],["land","drains","rows","row","parts","column","high","part"],["_law_rows","_law_drains_here","_law_cell","_law_height"],["self","cell","height"],["self","cell"]]
end Mine.Internal
namespace Mine.Internal.Pure
open PySem
theorem Bl {Γ:Env'} {i:Nat} {v:Val} {k:Val -> Prop} (h:Γ[i]?=some (some v)):P4 Γ i k=k v:=by rw [Du,h];rfl
theorem Hm {α β γ:Type} (p:α -> β -> γ -> Prop):∃ q:α -> β -> γ -> Prop,∀ a b c,q a b c↔p a b c:=⟨p,fun _ _ _=>Iff.rfl⟩
section
variable {H:Hp} {Q:Val -> Hp -> Prop} {E:Nat -> Hp -> Prop} {d:Nat}
noncomputable def HV (v:Val):Prop:=v=.none \/ ∃ i:Int,v=.int i /\ 0 <= i /\ i <= 1000000000
theorem Wa:T_12.globs[0]?=some (.int 30):=rfl
theorem P8:T_12.globs[1]?=some (.int 1000000000):=rfl
theorem Gw {x lo hi:Int} (h1:lo <= x) (h2:x <= hi):Wp (Ag T_12 (d+1) 0 [.int x,.int lo,.int hi]) H Q E=Q (.bool true) H:=by
  rw [A0 (g:=Aec) rfl rfl,Aec]
  simp only [List.map_cons,List.map_nil,List.replicate_zero,List.cons_append,List.nil_append,↓Ae,↓Bv,↓Km,↓Es,↓Dj,↓An,↓Aj,↓Hj,↓Af,↓Ml,↓Fj,↓Gb,↓D4,↓Cg,↓Bi,↓A2,↓Mn,↓A3,↓Aea,decide_eq_true h1,decide_eq_true h2]
theorem Zv {r c i j:Int} (h1:0 <= i) (h2:i < r) (h3:0 <= j) (h4:j < c):Wp (Ag T_12 (d+2) 1 [.int r,.int c,.tup [.int i,.int j]]) H Q E=Q (.bool true) H:=by
  rw [A0 (g:=Aed) rfl rfl,Aed]
  simp only [List.map_cons,List.map_nil,List.replicate_zero,List.cons_append,List.nil_append,↓Ae,↓Bv,↓Km,↓Es,↓Dj,↓An,↓A3,↓Aj,↓Hk,↓Af,↓Ml,↓Fj,↓Bg,↓D5,↓Am,↓Au,↓Hi,↓Co,↓Zt,↓Cg,↓Bi,↓A2,↓Jp,↓A9,↓Di,↓Jy,↓C7,↓Rc,↓Hl,↓Mm]
  rw [Gw h1 (by exact Aj5 h2),Af,Fj,Gw h3 (by exact Aj5 h4)]
  rfl
theorem Lo {v:Val} (h:HV v):Wp (Ag T_12 (d+2) 3 [v]) H Q E=Q (.bool true) H:=by
  rw [A0 (g:=Aef) rfl rfl,Aef]
  rcases h with rfl | ⟨i,rfl,h1,h2⟩
  · simp only [List.map_cons,List.map_nil,List.replicate_zero,List.cons_append,List.nil_append,↓Ae,↓Bi,↓A2,↓Km,↓Bg,↓An,↓Aj,↓F9,↓Dx,↓Af,↓Fj]
  · simp only [List.map_cons,List.map_nil,List.replicate_zero,List.cons_append,List.nil_append,↓Ae,↓Bi,↓A2,↓Km,↓Bg,↓An,↓Aj,↓F9,↓Db,↓Af,↓D4,↓A9,↓Am,↓Co,↓wp_glob,P8,↓Au,↓Cs]
    exact Gw h1 h2
end
noncomputable def J0 (ns:List Int) (k:Nat):Int:=ns.getD k 0
section
variable {H:Hp} {Q:Val -> Hp -> Prop} {E:Nat -> Hp -> Prop} {d:Nat}
theorem Of {ns:List Int} {k:Nat} (h:k < ns.length):Wp (En (.script ns) (.int (k:Int))) H Q E=Q (.int (ns.getD k 0)) H:=by
  have e:ns[k]?=some (ns.getD k 0):=by rw [List.getD_eq_getElem?_getD,List.getElem?_eq_getElem h];rfl
  rw [S7 e];rfl
theorem Fl (ns:List Int) (k:Nat):Wp (Ag T_12 (d+1) 7 [.script ns,.int (k:Int)]) H Q E=Q (.int (J0 ns k)) H:=by
  rw [A0 (g:=Aei) rfl rfl,Aei]
  simp only [List.map_cons,List.map_nil,List.replicate_zero,List.cons_append,List.nil_append,↓Ae,↓Bv,↓Bg,↓An,↓A3,↓Aj,↓D5,↓Am,↓Au,↓B2,↓Vx,↓Af,↓Bi,↓A2,↓Di,↓Cg,↓Co]
  by_cases q:(k:Int) < ns.length
  · rw [C5 q,Of (by exact Aar q)];rfl
  · rw [Bu q]
    show Q (.int 0) H=_
    rw [show J0 ns k=0 by unfold J0;rw [List.getD_eq_getElem?_getD,List.getElem?_eq_none (by exact Aor q)];rfl]
noncomputable def OkS (r c:Nat):Prop:=1 <= r /\ r <= 30 /\ 1 <= c /\ c <= 30
theorem Ct (a:Int) (n:Nat) (h:0 < n):∃ k:Nat,Int.fmod a n=k /\ k < n:=by
  have h1:=Int.fmod_nonneg_of_pos a (show (0:Int) < n by exact Aj6 h)
  have h2:=Int.fmod_lt_of_pos a (show (0:Int) < n by exact Aj6 h)
  exact ⟨(Int.fmod a n).toNat,by exact Aos h1,by exact o18 h1 h2⟩
theorem Ms {b:Bool} {A B A' B':Prop} (h:brB b A B) (h1:A -> A') (h2:B -> B'):brB b A' B':=by
  cases b
  · exact h2 h
  · exact h1 h
theorem Ag8 (n:Int) (k:Int) (hk:0 <= k):∃ v,HV v /\ ∀ (H:Hp),Wp (Ag T_12 (d+1) 9 [.int n,.int k]) H (fun w H'=>w=v /\ H'=H) NoE:=by
  refine ex1 (Ct (Int.fdiv n 9) 3 (by decide)) fun a zz=>Ac zz fun ha la=>?_
  refine ex1 (Ct (Int.fdiv n 9) 12 (by decide)) fun b zz=>Ac zz fun hb lb=>?_
  refine ex1 (Ct (Int.fdiv n 9) 1000000001 (by decide)) fun c zz=>Ac zz fun hc lc=>?_
  refine ex1 (Ct (Int.fdiv n 9) 2 (by decide)) fun e zz=>Ac zz fun he le=>?_
  have st:∀ (v:Val) (H:Hp),brB (decide (Int.fmod n 9=8)) (Val.none=v) (brB (decide (k=0)) (Val.int a=v) (brB (decide (k=1)) (Val.int b=v) (brB (decide (k=2)) (Val.int c=v) (Val.int (1000000000 - e)=v)))) -> Wp (Ag T_12 (d+1) 9 [.int n,.int k]) H (fun w H'=>w=v /\ H'=H) NoE:=fun v H h=>by
    rw [A0 (g:=Aej) rfl rfl,Aej]
    refine ⟨by decide,?_⟩
    show brB (decide (Int.fmod n 9=8)) (Val.none=v /\ H=H) (brB (decide (k=0)) (_ /\ _ /\ (Val.int (Int.fmod (Int.fdiv n 9) ((3:Nat):Int))=v /\ H=H)) (brB (decide (k=1)) (_ /\ _ /\ (Val.int (Int.fmod (Int.fdiv n 9) ((12:Nat):Int))=v /\ H=H)) (brB (decide (k=2)) (_ /\ _ /\ (Val.int (Int.fmod (Int.fdiv n 9) ((1000000001:Nat):Int))=v /\ H=H)) (_ /\ _ /\ (Val.int (1000000000 - Int.fmod (Int.fdiv n 9) ((2:Nat):Int))=v /\ H=H)))))
    rw [ha,hb,hc,he]
    refine Ms h (fun h=>⟨h,rfl⟩) fun h=>Ms h (fun h=>⟨by decide,by decide,h,rfl⟩) fun h=>Ms h (fun h=>⟨by decide,by decide,h,rfl⟩) fun h=>Ms h (fun h=>⟨by decide,by decide,h,rfl⟩) fun h=>⟨by decide,by decide,h,rfl⟩
  by_cases q:Int.fmod n 9=8
  · exact ⟨.none,.inl rfl,fun H=>st _ H (by rw [C5 q])⟩
  by_cases q0:k=0
  · exact ⟨.int a,.inr ⟨a,rfl,by exact Aot la,by exact Aou la⟩,fun H=>st _ H (by rw [Bu q,C5 q0])⟩
  by_cases q1:k=1
  · exact ⟨.int b,.inr ⟨b,rfl,by exact Aov lb,by exact Aow lb⟩,fun H=>st _ H (by rw [Bu q,Bu q0,C5 q1])⟩
  by_cases q2:k=2
  · exact ⟨.int c,.inr ⟨c,rfl,by exact Aox lc,by exact Aoy lc⟩,fun H=>st _ H (by rw [Bu q,Bu q0,Bu q1,C5 q2])⟩
  · exact ⟨.int (1000000000 - (e:Int)),.inr ⟨_,rfl,by exact Aoz le,by exact Ao0 le⟩,fun H=>st _ H (by rw [Bu q,Bu q0,Bu q1,Bu q2])⟩
theorem Ta (ns:List Int) (k:Nat) (hk:k <= 900):∃ n:Int,∀ (H:Hp),Wp (Ag T_12 (d+2) 10 [.script ns,.int (k:Int)]) H (fun w H'=>w=.int n /\ H'=H) NoE:=by
  have sm:small (k:Int)=true:=by unfold small;simp;exact Ao1 hk
  by_cases q:(k:Int)+3 < ns.length
  · refine ⟨ns.getD (k+3) 0,fun H=>?_⟩
    rw [A0 (g:=Oe) rfl rfl,Oe]
    simp only [List.map_cons,List.map_nil,List.replicate_zero,List.cons_append,List.nil_append,↓Ae,↓Bv,↓Bg,↓C7,↓An,↓A3,↓Aj,↓Co,↓Jr,↓D5,↓Am,↓Au,↓B2,↓Vx,↓Af,↓Bi,↓A2,↓Di,↓Cg,↓A9,↓Ob]
    rw [C5 q,show (k:Int)+3=((k+3:Nat):Int) by exact Ao2,Of (by exact Ao3 q)]
    exact ⟨rfl,rfl⟩
  · refine ⟨7 * J0 ns 1+J0 ns 2 * k * k+13 * k,fun H=>?_⟩
    rw [A0 (g:=Oe) rfl rfl,Oe]
    simp only [List.map_cons,List.map_nil,List.replicate_zero,List.cons_append,List.nil_append,↓Ae,↓Bv,↓Bg,↓C7,↓An,↓A3,↓Aj,↓Co,↓Jr,↓D5,↓Am,↓Au,↓B2,↓Vx,↓Af,↓Bi,↓A2,↓Di,↓Cg,↓A9,↓Ob]
    rw [Bu q]
    show Wp (Ag T_12 (d+1) 7 [.script ns,.int ((1:Nat):Int)]) H _ _
    rw [Fl]
    refine ⟨rfl,?_⟩
    show Wp (Ag T_12 (d+1) 7 [.script ns,.int ((2:Nat):Int)]) H _ _
    rw [Fl]
    refine ⟨by rw [sm,Bool.or_true],by rw [sm,Bool.or_true],rfl,rfl,rfl⟩
end
structure OkG (g:List (List Val)) (r c:Nat):Prop where
  len:g.length=r
  row:∀ (i:Nat) (w:List Val),g[i]?=some w -> w.length=c /\ ∀ v∈w,HV v
section
variable {T:Tab} {Φ:Funs} {Γ:Env'} {H:Hp} {Q:Val -> Hp -> Prop} {E:Nat -> Hp -> Prop} {d:Nat} {QS:Env' -> Hp -> Prop} {R:Val -> Hp -> Prop} {ES:Nat -> Env' -> Hp -> Prop}
theorem Wb {α:Type} {l:List α} {x:α} {j:Nat} {w:α} (h:(l++[x])[j]?=some w):l[j]?=some w \/ (j=l.length /\ w=x):=by
  by_cases c:j < l.length
  · rw [List.getElem?_append_left c] at h;exact .inl h
  · rw [List.getElem?_append_right (by exact Afi c)] at h
    have e:j - l.length=0:=by
      have:=(List.getElem?_eq_some_iff.mp h).1
      simp at this;assumption
    rw [e] at h
    cases h
    exact .inr ⟨by exact Aj0 e c,rfl⟩
end
section
variable {T:Tab} {Φ:Funs} {Γ:Env'} {H:Hp} {Q:Val -> Hp -> Prop} {E:Nat -> Hp -> Prop} {d:Nat} {QS:Env' -> Hp -> Prop} {R:Val -> Hp -> Prop} {ES:Nat -> Env' -> Hp -> Prop}
noncomputable def Cb (i c:Nat):List Val:=(List.range c).map fun (j:Nat)=>.tup [.int (i:Int),.int (j:Int)]
noncomputable def cells (r c:Nat):List Val:=(List.range r).flatMap fun i=>Cb i c
theorem Lp (r c:Nat):cells (r+1) c=cells r c++Cb r c:=by
  unfold cells;rw [List.range_succ];simp
theorem Mt (i c:Nat):Cb i (c+1)=Cb i c++[.tup [.int (i:Int),.int (c:Int)]]:=by
  unfold Cb;rw [List.range_succ,List.map_append];rfl
theorem J1 (r c:Nat):(cells r c).length=r * c:=by
  induction r with
  | zero=>simp [cells]
  | succ r ih=>rw [Lp,List.length_append,ih,Cb,List.length_map,List.length_range,Nat.succ_mul]
theorem Wc (K:Hp) (a b:HObj):(K++[a]).set K.length b=K++[b]:=by
  rw [List.set_append_right _ _ (Nat.le_refl _),Nat.sub_self];rfl
theorem Wd {r c:Nat} (hr:r <= 30) (hc:c <= 30):Wp (Ag T_12 (d+1) 2 [.int (r:Int),.int (c:Int)]) H (fun v H'=>v=.loc H.length /\ H'=H++[.list (cells r c)]) NoE:=by
  have hlid:lid=16777216:=rfl
  rw [A0 (g:=Aee) rfl rfl,Aee]
  refine A1 (fun v H'=>v=.loc H.length /\ H'=H++[.list []]) ?_ ?_
  · simp only [↓Ej,↓Au,and_self]
  rintro _ H1 ⟨rfl,e⟩
  rw [e];clear e H1
  refine Fc (fun Γ H'=>∃ a b,Γ=[some (.int r),some (.int c),some (.loc H.length),a,b] /\ H'=H++[.list (cells r c)]) ?_ ?_
  · refine C1 (n:=r) (fun k Γ K=>∃ a b,Γ=[some (.int r),some (.int c),some (.loc H.length),a,b] /\ K=H++[.list (cells k c)] /\ k <= r) ?_ ?_ ?_ ?_ ?_
    · simp only [↓An,List.map_cons,List.map_nil,List.replicate_succ,List.replicate_zero,List.cons_append,List.nil_append,List.set_cons_succ,List.set_cons_zero,and_true,↓Aj]
    · exact Aj7 hr
    · exact ⟨_,_,rfl,rfl,Nat.zero_le _⟩
    · intro k Γ K hk zz
      refine ex2 zz fun a b zz=>As zz fun zr2 zr3 _=>?_;subst zr2;subst zr3
      refine Fc (fun Γ K=>∃ a b,Γ=[some (.int r),some (.int c),some (.loc H.length),a,b] /\ K=H++[.list (cells (k+1) c)] /\ k+1 <= r) ?_ (fun Γ K h=>by rw [Cg];exact h)
      refine C1 (n:=c) (fun j Γ K=>∃ b,Γ=[some (.int r),some (.int c),some (.loc H.length),some (.int k),b] /\ K=H++[.list (cells k c++Cb k j)] /\ j <= c) ?_ ?_ ?_ ?_ ?_
      · simp only [↓An,List.set_cons_succ,List.set_cons_zero,and_true,↓A3,↓Aj]
      · exact Aj7 hc
      · exact ⟨_,rfl,by simp [Cb],Nat.zero_le _⟩
      · intro j Γ K hj zz
        refine ex1 zz fun b zz=>As zz fun zr1 zr2 _=>?_;subst zr1;subst zr2
        refine C0 (fun K'=>K'=H++[.list (cells k c++Cb k (j+1))]) ?_ ?_
        · refine Bk rfl (Ax H _) ?_
          simp only [↓Jq,↓Am,↓An,List.set_cons_succ,List.set_cons_zero,↓Au,↓A3,↓Aj]
          refine ⟨_,Ax H _,?_,?_⟩
          · rw [List.length_append,J1,Cb,List.length_map,List.length_range]
            have:=Nat.mul_le_mul (show k <= 30 by exact Ao4 hk hr) hc
            exact Ao5 hj hlid this hc
          · rw [Wc,List.append_assoc,<- Mt]
        · rintro K' rfl
          rw [Cg]
          exact ⟨_,rfl,rfl,by exact Aj8 hj⟩
      · intro Γ K zz
        refine ex1 zz fun b zz=>As zz fun zr1 e _=>?_;subst zr1
        rw [Int.toNat_natCast,<- Lp] at e
        exact ⟨_,_,rfl,e,by exact Aj8 hk⟩
    · intro Γ K zz
      refine ex2 zz fun a b zz=>As zz fun e e' _=>?_
      rw [Int.toNat_natCast] at e'
      exact ⟨a,b,e,e'⟩
  intro Γ K zz
  refine ex2 zz fun a b zz=>Ac zz fun zr2 zr3=>?_;subst zr2;subst zr3
  simp only [↓Ae,↓Bi,↓A2,↓An,↓A3,↓Aj,and_self]
end
section
variable {T:Tab} {Φ:Funs} {Γ:Env'} {H:Hp} {Q:Val -> Hp -> Prop} {E:Nat -> Hp -> Prop} {d:Nat} {QS:Env' -> Hp -> Prop} {R:Val -> Hp -> Prop} {ES:Nat -> Env' -> Hp -> Prop}
theorem Cc {i c n:Nat} {fs:List (Nat × Val)} {v:Val} (h:H[i]?=some (.inst c fs)) (hf:fs.lookup n=some v):Wp (M6 (.loc i) n) H Q E=Q v H:=by
  have:M6 (.loc i) n H=.ok v H:=by
    unfold M6;rw [C4];simp only [h,hf]
  unfold Wp;rw [this]
theorem El {i c n:Nat} {fs:List (Nat × Val)} {v:Val} {Q:Unit -> Hp -> Prop} (h:H[i]?=some (.inst c fs)):Wp (Bn (.loc i) n v) H Q E=Q () (H.set i (.inst c (Tj fs n v))):=by
  have:Bn (.loc i) n v H=.ok () (H.set i (.inst c (Tj fs n v))):=by
    unfold Bn;simp only [h]
  unfold Wp;rw [this]
theorem Gc {l:Nat} {xs:List Val} {k:Int} {v:Val} {Q:Unit -> Hp -> Prop} (h:H[l]?=some (.list xs)) (h0:0 <= k) (h1:k < xs.length):Wp (Bw (.loc l) (.int k) v) H Q E=Q () (H.set l (.list (xs.set k.toNat v))):=by
  have:Bw (.loc l) (.int k) v H=.ok () (H.set l (.list (xs.set k.toNat v))):=by
    unfold Bw;simp only [h];exact if_pos ⟨h0,h1⟩
  unfold Wp;rw [this]
theorem Dl {l:Nat} {xs:List Val} (h:H[l]?=some (.list xs)) {k:Nat} {v:Val} (hk:xs[k]?=some v):Wp (En (.loc l) (.int (k:Int))) H Q E=Q v H:=by
  have lt:=(List.getElem?_eq_some_iff.mp hk).1
  have:En (.loc l) (.int (k:Int)) H=.ok v H:=by
    unfold En;rw [C4]
    simp only [h,Od k xs.length lt,Option.bind_some,hk]
  unfold Wp;rw [this]
theorem Mu {i c m k:Nat} {fs:List (Nat × Val)} {Q:Nat -> Hp -> Prop} (h:H[i]?=some (.inst c fs)) (hk:T.meth c m=some k):Wp (Ee T (.loc i) m) H Q E=Q k H:=by
  have:Ee T (.loc i) m H=.ok k H:=by
    unfold Ee;rw [C4];simp only [h,hk]
  unfold Wp;rw [this]
theorem Fd {i l:Nat} {it:ME} {body:MSs} {xs:List Val} (I:Nat -> Env' -> Hp -> Prop) (hit:wpE T Φ it Γ H (fun v H'=>v=.loc l /\ H'=H) NoE) (hl:H[l]?=some (.list xs)) (h0:I 0 Γ H) (hx:∀ k Γ K,I k Γ K -> K[l]?=some (.list xs))
    (hs:∀ k x Γ K,xs[k]?=some x -> I k Γ K -> wpSs T Φ body (Γ.set i (some x)) K (I (k+1)) R NoX) (hd:∀ Γ K,I xs.length Γ K -> QS Γ K):wpS T Φ (.each i it body) Γ H QS R ES:=by
  refine Io (Ao hit ?_)
  rintro v H' ⟨hr0,e⟩;rw [hr0]
  rw [e,Cw (D8 hl)]
  exact Fb I h0 hd (fun k Γ K _ h=>Ek (hx k Γ K h)) fun k x Γ K hx h=>⟨_,rfl,hs k x Γ K hx h⟩
theorem Og {l b s r c:Nat} {g:List (List Val)} {k:Nat} {x:Val} (og:OkG g r c) (G:GAt H l b s g) (hx:((List.range g.length).map fun i=>Val.loc (b+s * i))[k]?=some x):∃ w,x=.loc (b+s * k) /\ g[k]?=some w /\ H[b+s * k]?=some (.list w) /\ w.length=c /\ ∀ v∈w,HV v:=by
  have lt:k < g.length:=by have:=(List.getElem?_eq_some_iff.mp hx).1;simpa using this
  rw [G.item lt] at hx
  cases hx
  have hg:g[k]?=some g[k]:=List.getElem?_eq_getElem lt
  exact ⟨g[k],rfl,hg,G.row k _ hg,og.row k _ hg⟩
theorem Abu {l n:Nat} {w:List Val} {k:Nat} {Γ:Env'} (g:Γ[k]?=some (some (.loc l))) (h:H[l]?=some (.list w)) (e:w.length=n) (h1:1 <= n) (h2:n <= 30):wpE T_12 (Ag T_12 (d+1)) (.or (.not (.isinst (.var k) .list)) (.not (.call 0 (.cons (.bf .len (.cons (.var k) .nil)) (.cons (.int 1) (.cons (.glob 0) .nil)))))) Γ H (fun v K=>v=.bool false /\ H=K) NoE:=by
  rw [Km,Es,Dj,An,Bl g,Aeb _ _ h]
  show wpE _ _ _ _ _ _ _
  rw [Es,A9,Am,D5,Am,An,Bl g,Au,Bj h,Am,Co,Am,wp_glob,Wa,Cs,Au,e,Gw (by exact Ao6 h1 h2) (by exact Ao7 h1 h2)]
  exact ⟨rfl,rfl⟩
theorem Aek {l b s r c:Nat} {g:List (List Val)} {x1:Option Val} (hS:OkS r c) (og:OkG g r c) (G:GAt H l b s g) (q:∀ a,QS [some (.loc l),a] H):wpS T_12 (Ag T_12 (d+1)) (.each 1 (.var 0) zT5) [some (.loc l),x1] H QS R NoX:=by
  unfold OkS at hS
  obtain ⟨I,hI⟩:=Hm (fun (k:Nat) (Γ:Env') (K:Hp)=>H=K /\ ∃ a,Γ=[some (.loc l),a])
  refine Fd I ⟨rfl,rfl⟩ G.top ((hI _ _ _).mpr ⟨rfl,_,rfl⟩) (fun k Γ K h=>by rw [<- ((hI _ _ _).mp h).1];exact G.top) ?_ ?_
  · intro k x Γ K hx h
    refine Ac ((hI _ _ _).mp h) fun zr0 zz=>ex1 zz fun a zr2=>?_;subst zr0;subst zr2
    refine ex1 (Og og G hx) fun w zz=>Fe zz fun hr0 hg hr lw _=>?_;refine Eq.symm hr0▸?_
    exact Dv _ (Abu rfl hr lw (by exact Ao8 hS lw) (by exact Aj9 hS lw)) fun K h=>(hI _ _ _).mpr ⟨h,_,rfl⟩
  · intro Γ K h
    refine Ac ((hI _ _ _).mp h) fun zr0 zz=>ex1 zz fun a zr2=>?_;subst zr0;subst zr2
    exact q a
theorem Ag9 {l b s r c:Nat} {g:List (List Val)} {x1:Option Val} (hS:OkS r c) (og:OkG g r c) (G:GAt H l b s g) (q:∀ a,QS [some (.loc l),a] H):wpS T_12 (Ag T_12 (d+1)) (.each 1 (.var 0) zT8) [some (.loc l),x1] H QS R NoX:=by
  unfold OkS at hS
  obtain ⟨x0,hx0⟩:∃ x,((List.range g.length).map fun i=>Val.loc (b+s * i))[0]?=some x:=⟨_,List.getElem?_eq_getElem (by rw [List.length_map,List.length_range,og.len];exact Ahx hS)⟩
  refine ex1 (Og og G hx0) fun w0 zz=>Fe zz fun zr1 _ hr0 lw0 _=>?_;subst zr1
  obtain ⟨I,hI⟩:=Hm (fun (k:Nat) (Γ:Env') (K:Hp)=>H=K /\ ∃ a,Γ=[some (.loc l),a])
  refine Fd I ⟨rfl,rfl⟩ G.top ((hI _ _ _).mpr ⟨rfl,_,rfl⟩) (fun k Γ K h=>by rw [<- ((hI _ _ _).mp h).1];exact G.top) ?_ ?_
  · clear q
    intro k x Γ K hx h
    refine Ac ((hI _ _ _).mp h) fun zr0 zz=>ex1 zz fun a zr2=>?_;subst zr0;subst zr2
    refine ex1 (Og og G hx) fun w zz=>Fe zz fun hr1 hg hr lw _=>?_;refine Eq.symm hr1▸?_
    refine Dv (fun K=>H=K) ?_ fun K h=>(hI _ _ _).mpr ⟨h,_,rfl⟩
    show Wp (bfV .len [.loc (b+s * k)]) H _ _
    rw [Bj hr]
    show Wp (En (.loc l) (.int ((0:Nat):Int))) H _ _
    rw [Dl G.top hx0]
    show Wp (bfV .len [.loc (b+s * 0)]) H _ _
    rw [Bj hr0,lw,lw0,Zt,decide_eq_true rfl]
    exact ⟨rfl,rfl⟩
  · intro Γ K h
    refine Ac ((hI _ _ _).mp h) fun zr0 zz=>ex1 zz fun a zr2=>?_;subst zr0;subst zr2
    exact q a
theorem Zw {l b s r c:Nat} {g:List (List Val)} (hS:OkS r c) (og:OkG g r c) (G:GAt H l b s g):Wp (Ag T_12 (d+2) 4 [.loc l]) H (fun v H'=>v=.none /\ H'=H) NoE:=by
  have hS':=hS
  unfold OkS at hS'
  rw [A0 (g:=Ag7) rfl rfl]
  refine Dv _ (Abu rfl G.top (show _=r by rw [List.length_map,List.length_range,og.len]) hS'.1 hS'.2.1) ?_
  rintro _ rfl
  refine Aek hS og G fun a=>?_
  exact Ag9 hS og G fun a=>⟨rfl,rfl⟩
structure LandAt (H:Hp) (o r c lg b s ls:Nat) (g:List (List Val)) (es:List (Key × Val)):Prop where
  inst:∃ fs,H[o]?=some (.inst 5 fs) /\ fs.lookup 0=some (.int (r:Int)) /\ fs.lookup 1=some (.int (c:Int)) /\ fs.lookup 2=some (.loc lg) /\ fs.lookup 3=some (.loc ls)
  grid:GAt H lg b s g
  sinks:H[ls]?=some (.dict es)
theorem LandAt.ext {H':Hp} {o r c lg b s ls:Nat} {g:List (List Val)} {es:List (Key × Val)} (x:LandAt H o r c lg b s ls g es) (e:Ext H H'):LandAt H' o r c lg b s ls g es:=by
  refine ex1 x.inst fun fs zz=>Ac zz fun h1 h2=>?_
  exact ⟨⟨fs,e.get h1,h2⟩,x.grid.ext e,e.get x.sinks⟩
structure But (l:Nat) (H H':Hp):Prop where
  keep:∀ m ob,m≠l -> H[m]?=some ob -> H'[m]?=some ob
  len:H.length <= H'.length
theorem Zx {o l b s r c:Nat} {g:List (List Val)} (og:OkG g r c) (G:GAt H l b s g) (q:∀ a b,QS [some (.loc o),some (.loc l),a,b] H) :
    wpS T_12 (Ag T_12 (d+2)) (.each 2 (.var 1) zT9) [some (.loc o),some (.loc l),none,none] H QS R NoX:=by
  obtain ⟨I,hI⟩:=Hm (fun (k:Nat) (Γ:Env') (K:Hp)=>H=K /\ ∃ a b,Γ=[some (.loc o),some (.loc l),a,b])
  refine Fd I ⟨rfl,rfl⟩ G.top ((hI _ _ _).mpr ⟨rfl,_,_,rfl⟩) (fun k Γ K h=>by rw [<- ((hI _ _ _).mp h).1];exact G.top) ?_ ?_
  · clear q
    intro k x Γ K hx h
    refine Ac ((hI _ _ _).mp h) fun zr0 zz=>ex2 zz fun a b' zr3=>?_;subst zr0;subst zr3
    refine ex1 (Og og G hx) fun w zz=>Fe zz fun zr1 hg hr lw hw=>?_;subst zr1
    refine Fd I ⟨rfl,rfl⟩ hr ((hI _ _ _).mpr ⟨rfl,_,_,rfl⟩) (fun k Γ K h=>by rw [<- ((hI _ _ _).mp h).1];exact hr) ?_ (fun Γ K h=>(hI _ _ _).mpr ((hI _ _ _).mp h))
    intro j v Γ K2 hv h
    refine Ac ((hI _ _ _).mp h) fun zr0 zz=>ex2 zz fun a b' zr3=>?_;subst zr0;subst zr3
    refine Dv (fun K=>H=K) ?_ (fun K h=>(hI _ _ _).mpr ⟨h,_,_,rfl⟩)
    rw [Es,A9,Am,An,Bl (v:=v) rfl,Au,Lo (hw v (List.mem_of_getElem? hv))]
    exact ⟨rfl,rfl⟩
  · intro Γ K h
    refine Ac ((hI _ _ _).mp h) fun zr0 zz=>ex2 zz fun a b zr3=>?_;subst zr0;subst zr3
    exact q a b
theorem Zy {o l b s r c:Nat} {g:List (List Val)} (hS:OkS r c) (og:OkG g r c) (G:GAt H l b s g) (ho:H[o]?=some (.inst 5 [])) :
    Wp (Ag T_12 (d+3) 16 [.loc o,.loc l]) H (fun v H'=>v=.none /\ But o H H' /\ ∃ lg b' ls,LandAt H' o r c lg b' 1 ls g [] /\ H.length <= b' /\ lg=b'+r /\ H.length <= ls) NoE:=by
  have hS':=hS
  unfold OkS at hS'
  have len:((List.range g.length).map fun i=>Val.loc (b+s * i)).length=r:=by rw [List.length_map,List.length_range,og.len]
  have ne:∀ k w,g[k]?=some w -> o≠b+s * k:=fun k w hg q=>by have:=G.row k w hg;rw [<- q,ho] at this;exact nomatch this
  have nl:o≠l:=fun q=>by have:=G.top;rw [<- q,ho] at this;cases this
  have G1:∀ ob,GAt (H.set o ob) l b s g:=fun ob=>G.other ob nl fun i hi=>ne i g[i] (List.getElem?_eq_getElem hi)
  rw [A0 (g:=Abm) rfl rfl]
  refine C0 (fun K=>H=K) ?_ ?_
  · exact (Zw hS og G).then fun v H' h=>h.2.symm
  rintro _ hr0;refine hr0▸?_
  refine Zx og G fun a b'=>?_
  obtain ⟨x0,hx0⟩:∃ x,((List.range g.length).map fun i=>Val.loc (b+s * i))[0]?=some x:=⟨_,List.getElem?_eq_getElem (by skip;exact Ao9 hS' len)⟩
  refine ex1 (Og og G hx0) fun w0 zz=>Fe zz fun zr1 hg0 hr0 lw0 _=>?_;subst zr1
  show Wp (bfV .len [.loc l]) H _ _
  rw [Bj G.top,len]
  show Wp (Bn (.loc o) 0 (.int (r:Int))) H _ _
  rw [El ho]
  show Wp (En (.loc l) (.int ((0:Nat):Int))) _ _ _
  rw [Dl (G1 _).top hx0]
  show Wp (bfV .len [.loc (b+s * 0)]) _ _ _
  rw [Bj ((G1 _).row 0 w0 hg0),lw0]
  show Wp (Bn (.loc o) 1 (.int (c:Int))) _ _ _
  rw [El (Ch _ ho),List.set_set]
  refine Mr (l:=l) (b:=b) (s:=s) (g:=g) rfl (G1 _) (by rw [og.len];show r < 16777216;exact Aka hS' len) ⟨rfl,rfl⟩ ?_
  intro K2 e2 G2 hK2
  rw [List.length_set] at G2 hK2 ⊢
  have o2:=e2.get (Ch (HObj.inst 5 [(0,Val.int (r:Int)),(1,Val.int (c:Int))]) ho)
  have lo:o < H.length:=D7 ho
  have e3:∀ (X:Hp) (ob:HObj),Ext X (X++[ob]):=fun X ob=>⟨_,rfl⟩
  show Wp (Bn (.loc o) 2 (.loc (H.length+g.length))) K2 _ _
  rw [El o2]
  show Wp (Bn (.loc o) 3 _) (_++[.dict []]) _ _
  rw [El ((e3 _ _).get (Ch _ o2))]
  have G3:∀ (X:Hp) (ob:HObj),GAt X (H.length+g.length) H.length 1 g -> GAt (X.set o ob) (H.length+g.length) H.length 1 g:=fun X ob x=>x.other ob (by exact Apa lo) fun i _=>by exact Aic lo
  refine ⟨rfl,⟨fun m ob hm h=>?_,?_⟩,H.length+g.length,H.length,K2.length,⟨⟨_,Ch _ ((e3 _ _).get (Ch _ o2)),rfl,rfl,rfl,?_⟩,G3 _ _ ((G3 _ _ G2).ext (e3 _ _)),?_⟩,Nat.le_refl _,by rw [og.len],by exact Apb hK2⟩
  · exact Ak _ (Ne.symm hm) ((e3 _ _).get (Ak _ (Ne.symm hm) (e2.get (Ak _ (Ne.symm hm) h))))
  · rw [List.length_set,List.length_append,List.length_set];exact Apc hK2
  · rw [List.length_set];rfl
  · refine Ak _ (by exact Apd lo hK2) ?_
    have:=Ax (K2.set o (HObj.inst 5 (Tj [(0,Val.int (r:Int)),(1,Val.int (c:Int))] 2 (Val.loc (H.length+g.length))))) (.dict [])
    rw [List.length_set] at this
    exact this
end
section
variable {T:Tab} {Φ:Funs} {Γ:Env'} {H:Hp} {Q:Val -> Hp -> Prop} {E:Nat -> Hp -> Prop} {d:Nat} {QS:Env' -> Hp -> Prop} {R:Val -> Hp -> Prop} {ES:Nat -> Env' -> Hp -> Prop}
theorem Aha {H H':Hp} (h:∀ (m:Nat) (ob:HObj),H[m]?=some ob -> H'[m]?=some ob):Ext H H':=by
  refine ⟨H'.drop H.length,List.ext_getElem? fun i=>?_⟩
  by_cases c:i < H.length
  · rw [List.getElem?_append_left c,List.getElem?_eq_getElem c]
    exact h i _ (List.getElem?_eq_getElem c)
  · rw [List.getElem?_append_right (by exact Afi c),List.getElem?_drop,show H.length+(i - H.length)=i by exact Ape c]
theorem We {l b s r c:Nat} {g:List (List Val)} (hS:OkS r c) (og:OkG g r c) (G:GAt H l b s g):Wp (Xn T_12 (Ag T_12 (d+3)) 5 [.loc l]) H (fun v H'=>v=.loc H.length /\ Ext H H' /\ ∃ lg b' ls,LandAt H' H.length r c lg b' 1 ls g [] /\ H.length < b' /\ lg=b'+r /\ H.length < ls) NoE:=by
  show Wp ((M.alloc (.inst 5 [])).bnd fun o=>(Ag T_12 (d+3) 16 [o,.loc l]).bnd fun r=>match r with
    | .none=>.ret o
    | _=>.bad) H _ _
  rw [Ar,Zn,Ar]
  have e0:Ext H (H++[HObj.inst 5 []]):=⟨_,rfl⟩
  refine (Zy hS og (G.ext e0) (Ax H _)).then ?_
  intro v H' zz
  refine As zz fun zr0 bt zz=>ex3 zz fun lg b' ls zz=>By zz fun L h1 h2 h3=>?_;subst zr0
  rw [List.length_append,List.length_singleton] at h1 h3
  refine ⟨rfl,Aha fun m ob hm=>bt.keep m ob (Nat.ne_of_lt (D7 hm)) (e0.get hm),lg,b',ls,L,h1,h2,h3⟩
theorem P9 {o r c lg b s ls:Nat} {g:List (List Val)} {es:List (Key × Val)} (og:OkG g r c) (hr:r <= 30) (L:LandAt H o r c lg b s ls g es):Wp (Ag T_12 (d+1) 21 [.loc o]) H (fun v H'=>v=.loc (H.length+r) /\ Ext H H' /\ GAt H' (H.length+r) H.length 1 g) NoE:=by
  have hlid:lid=16777216:=rfl
  refine ex1 L.inst fun fs zz=>Fe zz fun h0 h1 h2 h3 h4=>?_
  rw [A0 (g:=Abp) rfl rfl]
  refine Mr (l:=lg) (b:=b) (s:=s) (g:=g) rfl L.grid (by rw [og.len];exact Apf hlid hr) ?_ ?_
  · simp only [↓Fa,↓An,List.map_cons,List.map_nil,List.cons_append,List.nil_append,↓Aj]
    rw [Cc h0 h3]
    exact ⟨rfl,rfl⟩
  · intro K e G _
    rw [og.len] at G ⊢
    exact ⟨rfl,e,G⟩
noncomputable def inD (es:List (Key × Val)) (x:Val):Bool:=match Ec x with
  | some k=>(Ex es k).isSome
  | none=>false
theorem Zz {r c:Nat} {x:Val} (h:x∈cells r c):∃ i j:Nat,x=.tup [.int (i:Int),.int (j:Int)] /\ i < r /\ j < c:=by
  unfold cells Cb at h
  refine ex1 (List.mem_flatMap.mp h) fun i zz=>Ac zz fun hi h=>?_
  refine ex1 (List.mem_map.mp h) fun j zz=>Ac zz fun hj h=>?_
  exact ⟨i,j,h.symm,List.mem_range.mp hi,List.mem_range.mp hj⟩
theorem Wf {ls:Nat} {es:List (Key × Val)} {i j:Int} (h:H[ls]?=some (.dict es)):C2 .isin (.tup [.int i,.int j]) (.loc ls) H=some (inD es (.tup [.int i,.int j])):=by
  have e:C2 .isin (.tup [.int i,.int j]) (.loc ls) H=inV (.tup [.int i,.int j]) (.loc ls) H:=rfl
  rw [e]
  unfold inV
  simp only [h]
  rfl
theorem Gx {α:Type} {l:List α} {k:Nat} {x:α} (h:l[k]?=some x):l.take (k+1)=l.take k++[x]:=by
  rw [List.take_add_one,h];rfl
theorem Hn {o r c lg b s ls:Nat} {g:List (List Val)} {es:List (Key × Val)} (hr:r <= 30) (hc:c <= 30) (L:LandAt H o r c lg b s ls g es):Wp (Ag T_12 (d+2) 20 [.loc o]) H (fun v H'=>∃ m,v=.loc m /\ H.length <= m /\ Ext H H' /\ H'[m]?=some (.list ((cells r c).filter (inD es)))) NoE:=by
  have hlid:lid=16777216:=rfl
  refine ex1 L.inst fun fs zz=>Fe zz fun h0 h1 h2 h3 h4=>?_
  rw [A0 (g:=V9) rfl rfl,V9]
  simp only [List.map_cons,List.map_nil,List.replicate_zero,List.cons_append,List.nil_append,↓Ae,↓Bi,↓A2]
  refine Mp ?_
  dsimp only [↓F9,↓Mm,↓Co,↓H6,↓wp_glob,↓An,↓C7,↓Es,↓Jp,↓Km,↓Bg,↓Mn,↓Di,↓Im,↓A2,↓Jq,↓Ej,↓Vu,↓A9,↓D5,↓N6,↓Dj,↓Au,↓Am,↓Fa,↓Fk,↓Vv,↓Gv,↓Cg,↓Ae,↓Ca,↓Bt,↓Bi,↓Bv,↓N7,↓Ga,↓Dk,↓Jr,↓Rc,↓Ob,↓Js,↓Lj,↓Ip,↓B2,↓Hi,↓Abd,↓P5,↓Zs,↓Zt,↓Abe,↓Oc,↓Abf,↓Vx,↓S8,↓Aea,↓Dx,↓Db,↓D6,↓Et,↓Hj,↓Gb,↓Lk,↓Jt,↓Ju,↓H7,↓Jv,↓Jw,↓Jx,↓Ll,↓Lm,↓Hk,↓Ln,↓Jy,↓Hl,↓Vy,↓Aj,↓N5,↓Aba,↓A3,↓Af,↓Cs,↓Fj,↓D4,↓Ml,↓Q9,List.map_cons,List.map_nil,List.cons_append,List.nil_append,List.set_cons_zero,List.set_cons_succ,List.replicate_succ,List.replicate_zero,Bool.not_true,Bool.not_false,and_true,true_and,and_self]
  rw [Cc h0 h1,Cc h0 h2]
  refine (Wd hr hc).then ?_
  rintro v K ⟨rfl,e⟩
  rw [e];clear e K
  have e0:Ext H (H++[HObj.list (cells r c)]):=⟨_,rfl⟩
  rw [Cw (D8 (Ax H _))]
  refine Iq (fun k out K=>K=H++[.list (cells r c)] /\ out=((cells r c).take k).filter (inD es)) ⟨rfl,rfl⟩ ?_ ?_ ?_
  · rintro k out K ⟨rfl,_⟩;exact Ek (Ax H _)
  · rintro k x out K hx ⟨rfl,rfl⟩
    refine ex2 (Zz (List.mem_of_getElem? hx)) fun i j zz=>As zz fun zr2 _ _=>?_;subst zr2
    refine wp_step ?_
    dsimp only [↓F9,↓Mm,↓Co,↓H6,↓wp_glob,↓An,↓C7,↓Es,↓Jp,↓Km,↓Bg,↓Mn,↓Di,↓Im,↓A2,↓Jq,↓Ej,↓Vu,↓A9,↓D5,↓N6,↓Dj,↓Au,↓Am,↓Fa,↓Fk,↓Vv,↓Gv,↓Cg,↓Ae,↓Ca,↓Bt,↓Bi,↓Bv,↓N7,↓Ga,↓Dk,↓Jr,↓Rc,↓Ob,↓Js,↓Lj,↓Ip,↓B2,↓Hi,↓Abd,↓P5,↓Zs,↓Zt,↓Abe,↓Oc,↓Abf,↓Vx,↓S8,↓Aea,↓Dx,↓Db,↓D6,↓Et,↓Hj,↓Gb,↓Lk,↓Jt,↓Ju,↓H7,↓Jv,↓Jw,↓Jx,↓Ll,↓Lm,↓Hk,↓Ln,↓Jy,↓Hl,↓Vy,↓Aj,↓N5,↓Aba,↓A3,↓Af,↓Cs,↓Fj,↓D4,↓Ml,↓Q9,List.map_cons,List.map_nil,List.cons_append,List.nil_append,List.set_cons_zero,List.set_cons_succ,List.replicate_succ,List.replicate_zero,Bool.not_true,Bool.not_false,and_true,true_and,and_self]
    rw [Cc (e0.get h0) h4,Cw (Wf (e0.get L.sinks))]
    simp only [true_and]
    rw [Gx hx,List.filter_append]
    refine Dh ?_ ?_
    · intro q
      rw [List.filter_cons_of_pos q];rfl
    · intro q
      rw [List.filter_cons_of_neg (by rw [q];exact Bool.false_ne_true)];rfl
  · rintro zs K ⟨rfl,rfl⟩
    have tl:(cells r c).take (cells r c).length=cells r c:=List.take_length
    refine ⟨?_,_,rfl,by rw [List.length_append];exact Apg,e0.new _,?_⟩
    · refine Nat.lt_of_le_of_lt (List.length_filter_le _ _) ?_
      rw [tl,J1]
      have:=Nat.mul_le_mul hr hc
      exact Aph hlid this
    · rw [Ax,tl]
theorem It {o r c lg b s ls i j:Nat} {g:List (List Val)} {es:List (Key × Val)} (hi:i < r) (hj:j < c) (L:LandAt H o r c lg b s ls g es):Wp (Ag T_12 (d+3) 17 [.loc o,.tup [.int (i:Int),.int (j:Int)]]) H (fun v H'=>v=.none /\ H'=H) NoE:=by
  refine ex1 L.inst fun fs zz=>Fe zz fun h0 h1 h2 h3 h4=>?_
  rw [A0 (g:=V8) rfl rfl,V8]
  refine Dv (fun H'=>H'=H) ?_ ?_
  · simp only [↓Es,↓A9,↓Am,↓Fa,↓An,List.map_cons,List.map_nil,List.replicate_zero,List.cons_append,List.nil_append,↓Au,↓A3,↓Aj]
    rw [Cc h0 h1,Cc h0 h2,Zv (by exact Aas) (by exact Ahw hi) (by exact Aas) (by exact Ahw hj)]
    simp only [↓Af,Bool.not_true,and_self]
  · rintro H' rfl
    rw [Cg];exact ⟨rfl,rfl⟩
theorem Iu {o i j:Nat} {fs:List (Nat × Val)} {P:Hp -> Prop} (h0:H[o]?=some (.inst 5 fs)) (h:Wp (Ag T_12 d 17 [.loc o,.tup [.int (i:Int),.int (j:Int)]]) H (fun v H'=>v=.none /\ H'=H) NoE) (p:P H) {Γ:Env'} (g0:Γ[0]?=some (some (.loc o))) (g1:Γ[1]?=some (some (.tup [.int (i:Int),.int (j:Int)]))) :
    wpE T_12 (Ag T_12 d) (.umeth (.var 0) 1 (.cons (.var 1) .nil)) Γ H (fun _ H'=>P H') NoE:=by
  rw [Fk,An,Du,g0]
  show Wp (Ee T_12 (.loc o) 1) H _ _
  rw [Mu h0 (show T_12.meth 5 1=some 17 from rfl),Am,An,Du,g1]
  exact h.then fun v H' e=>e.2▸p
theorem Ahb {o r c lg b s ls i j:Nat} {g:List (List Val)} {es:List (Key × Val)} {w:List Val} {x:Val} (hi:i < r) (hj:j < c) (L:LandAt H o r c lg b s ls g es) (hw:g[i]?=some w) (hx:w[j]?=some x) :
    Wp (Ag T_12 (d+4) 18 [.loc o,.tup [.int (i:Int),.int (j:Int)]]) H (fun v H'=>v=x /\ H'=H) NoE:=by
  refine ex1 L.inst fun fs zz=>Fe zz fun h0 h1 h2 h3 h4=>?_
  rw [A0 (g:=Abn) rfl rfl]
  refine C0 (fun H'=>H'=H) (Iu (P:=fun K=>K=H) h0 (It hi hj L) rfl rfl rfl) ?_
  rintro H' hr0;refine Eq.symm hr0▸?_
  simp only [↓Ae,↓Bi,↓A2,↓Di,↓Fa,↓An,List.map_cons,List.map_nil,List.cons_append,List.nil_append,↓Co,↓A3,↓Aj,↓Hl,↓Jy]
  rw [Cc h0 h3,Dl L.grid.top (L.grid.item (List.getElem?_eq_some_iff.mp hw).1),Dl (L.grid.row i w hw) hx]
  exact ⟨rfl,rfl⟩
theorem Fm {o r c lg b s ls i j:Nat} {g:List (List Val)} {es:List (Key × Val)} {w:List Val} {n:Int} (hi:i < r) (hj:j < c) (L:LandAt H o r c lg b s ls g es) (hw:g[i]?=some w) (hx:w[j]?=some (.int n)) (he:es.length < lid) :
    Wp (Ag T_12 (d+4) 19 [.loc o,.tup [.int (i:Int),.int (j:Int)]]) H (fun v H'=>v=.none /\ H'=H.set ls (.dict (Hq es ((i:Int),(j:Int)) (.bool true)))) NoE:=by
  refine ex1 L.inst fun fs zz=>Fe zz fun h0 h1 h2 h3 h4=>?_
  rw [A0 (g:=Abo) rfl rfl]
  refine C0 (fun H'=>H'=H) (Iu (P:=fun K=>K=H) h0 (It hi hj L) rfl rfl rfl) ?_
  rintro H' rfl
  refine Dv (fun K=>K=H') ?_ ?_
  · simp only [↓Bg,↓Di,↓Fa,↓An,List.map_cons,List.map_nil,List.cons_append,List.nil_append,↓Co,↓F9,↓A3,↓Aj,↓Hl,↓Jy]
    rw [Cc h0 h3,Dl L.grid.top (L.grid.item (List.getElem?_eq_some_iff.mp hw).1),Dl (L.grid.row i w hw) hx]
    simp only [↓Db,and_self]
  rintro K rfl
  simp only [↓Ae,↓Dk,↓Mm,↓Fa,↓An,List.map_cons,List.map_nil,List.cons_append,List.nil_append,↓Cg,true_and,↓A3,↓Aj]
  rw [Cc h0 h4]
  refine Wp.of_eq (a:=()) (H':=K.set ls (.dict (Hq es ((i:Int),(j:Int)) (.bool true)))) ?_ rfl
  unfold Bw
  simp only [L.sinks]
  exact if_pos he
end
noncomputable def Oh:List (Nat × Nat):=[(1,30),(30,1),(5,5),(2,12),(2,30),(30,2),(6,7),(7,9)]
section
variable {T:Tab} {Φ:Funs} {Γ:Env'} {H:Hp} {Q:Val -> Hp -> Prop} {E:Nat -> Hp -> Prop} {d:Nat} {QS:Env' -> Hp -> Prop} {R:Val -> Hp -> Prop} {ES:Nat -> Env' -> Hp -> Prop}
theorem Z0 (c:Int):∃ r k:Nat,(OkS r k /\ r * k <= 63) /\ ∀ (H:Hp),Wp (Ag T_12 (d+1) 8 [.int c]) H (fun v H'=>v=.tup [.int r,.int k] /\ Ext H H') NoE:=by
  by_cases q:Int.fmod (Int.fdiv c 20) 8=1
  · refine ex1 (Ct (Int.fdiv c 160) 8 (by decide)) fun j zz=>Ac zz fun hj lj=>?_
    have lj':j < Oh.length:=lj
    refine ⟨(Oh[j]).1,(Oh[j]).2,?_,fun H=>?_⟩
    · have:∀ p∈Oh,OkS p.1 p.2 /\ p.1 * p.2 <= 63:=by unfold OkS Oh;decide
      exact this _ (List.getElem_mem lj')
    · rw [A0 (g:=V7) rfl rfl,V7]
      simp only [List.map_cons,List.map_nil,List.replicate_zero,List.cons_append,List.nil_append,↓Ae,↓Bv,↓Bg,↓C7,↓An,↓Aj,↓Co,↓Js,↓Lj,↓Zs,↓Af,↓Bi,↓A2,↓Di,↓Ej,↓Am,↓Jq,↓Au,↓Cg,↓Jr]
      refine ⟨by decide,by decide,?_⟩
      rw [C5 q]
      refine ⟨by decide,by decide,?_⟩
      rw [show Int.fmod (Int.fdiv c 160) 8=(j:Int) from hj]
      refine V0 (Ax H _) (by exact Api lj) (v:=.tup [.int ((Oh[j]).1:Nat),.int ((Oh[j]).2:Nat)]) ?_ ⟨rfl,⟨_,rfl⟩⟩
      show (Oh.map fun p=>Val.tup [.int (p.1:Nat),.int (p.2:Nat)])[j]?=_
      rw [List.getElem?_map,List.getElem?_eq_getElem lj'];rfl
  · refine ex1 (Ct c 4 (by decide)) fun i zz=>Ac zz fun hi li=>?_
    refine ex1 (Ct (Int.fdiv c 4) 5 (by decide)) fun j zz=>Ac zz fun hj lj=>?_
    refine ⟨1+i,1+j,⟨by unfold OkS;exact Apj li lj,by have:=Nat.mul_le_mul (show 1+i <= 4 by exact Apk li) (show 1+j <= 5 by exact Apl lj);exact Apm this⟩,fun H=>?_⟩
    rw [A0 (g:=V7) rfl rfl,V7]
    simp only [List.map_cons,List.map_nil,List.replicate_zero,List.cons_append,List.nil_append,↓Ae,↓Bv,↓Bg,↓C7,↓An,↓Aj,↓Co,↓Js,↓Lj,↓Zs,↓Af,↓Bi,↓A2,↓Di,↓Ej,↓Am,↓Jq,↓Au,↓Cg,↓Jr]
    refine ⟨by decide,by decide,?_⟩
    rw [Bu q]
    refine ⟨by decide,by decide,by decide,?_,Ext.refl H⟩
    rw [show Int.fmod c 4=(i:Int) from hi,show Int.fmod (Int.fdiv c 4) 5=(j:Int) from hj]
    rfl
theorem Ael {ns:List Int} {r c k:Nat} {x2 x3:Val} {a5:Option Val} (hS:OkS r c) (hk:k < r):wpE T_12 (Ag T_12 (d+2)) (.comp (.call 10 (.cons (.var 0) (.cons (.bin .add (.bin .mul (.var 4) (.sub (.var 1) (.int 1))) (.var 6)) .nil))) (.bf .range (.cons (.sub (.var 1) (.int 1)) .nil)) .none) [some (.script ns),some (.tup [.int (r:Int),.int (c:Int)]),some x2,some x3,some (.int (k:Int)),a5] H
    (fun v K=>∃ nums:List Val,v=.loc H.length /\ K=H++[.list nums] /\ nums.length=c /\ ∀ x∈nums,∃ n:Int,x=.int n) NoE:=by
  have hlid:lid=16777216:=rfl
  unfold OkS at hS
  refine Jz (xs:=V4 c) (src:=none) (fun _ v=>∃ n:Int,v=.int n) (Abg (by exact Akb hS) ⟨rfl,rfl⟩) rfl (by rw [Ir];exact Akc hS hlid) ?_ ?_
  · intro j x hx
    obtain ⟨hr0,lj⟩:=Rf hx;refine Eq.symm hr0▸?_
    obtain ⟨n,hn⟩:=Ta (d:=d) ns (k * c+j) (by have:=Nat.mul_le_mul (show k <= 29 by exact Akd hS hk) (show c <= 30 by exact Afn hS);exact Apn hS lj this)
    show wpE _ _ _ [some (.script ns),some (.tup [.int (r:Int),.int (c:Int)]),some x2,some x3,some (.int (k:Int)),a5,some (.int (j:Int))] _ _ _
    simp only [↓A9,↓Am,↓Au,↓An,↓C7,↓Di,↓Co,↓N5,↓Aj,↓A3,↓Hl,↓Ob,↓Jr]
    refine ⟨by rw [show small (k:Int)=true by unfold small;simp;exact Ake hS hk];rfl,?_⟩
    rw [show (k:Int) * (c:Int)+(j:Int)=((k * c+j:Nat):Int) by rw [Int.natCast_add,Int.natCast_mul]]
    exact (hn H).then fun v H' h=>⟨⟨n,h.1⟩,h.2⟩
  · intro ys hl hp
    refine ⟨ys,rfl,rfl,hl.trans (Ir c),fun x hx=>?_⟩
    obtain ⟨j,hj⟩:=List.mem_iff_getElem?.mp hx
    exact hp j x hj
theorem Ahc {nums:List Val} {c l kind:Nat} {xs:List Val} {x0 x1 x4:Val} (hl:H[l]?=some (.list xs)) (xl:xs.length < 1000) (cl:c <= 1000) (ln:nums.length=c) (hn:∀ x∈nums,∃ n:Int,x=.int n)
    (q:∀ w:List Val,w.length=c -> (∀ v∈w,HV v) -> QS [some x0,some x1,some (.int (kind:Int)),some (.loc l),some x4,some (.loc H.length)] (((H++[HObj.list nums])++[HObj.list w]).set l (HObj.list (xs++[Val.loc (H.length+1)])))) :
    wpSs T_12 (Ag T_12 (d+2)) zT10 [some x0,some x1,some (.int (kind:Int)),some (.loc l),some x4,some (.loc H.length)] (H++[HObj.list nums]) QS R NoX:=by
  have hlid:lid=16777216:=rfl
  have e1:Ext H (H++[HObj.list nums]):=⟨_,rfl⟩
  refine C0 (fun K=>QS [some x0,some x1,some (.int (kind:Int)),some (.loc l),some x4,some (.loc H.length)] K) ?_ (fun K h=>h)
  refine Bk rfl (e1.get hl) ?_
  refine Jz (xs:=nums) (src:=some H.length) (fun _ v=>HV v) ⟨rfl,D8 (Ax H _)⟩ (Ek (Ax H _)) (by exact Apo hlid ln cl) ?_ ?_
  · intro j x hx
    obtain ⟨n,rfl⟩:=hn x (List.mem_of_getElem? hx)
    refine ex1 (Ag8 (d:=d+1) n kind (by exact Aas)) fun v zz=>Ac zz fun hv hw=>?_
    exact (hw _).then fun w H' h=>⟨h.1▸hv,h.2⟩
  · intro ys hl' hp
    refine ⟨_,Ext.get ⟨_,rfl⟩ (e1.get hl),by exact Akf xl hlid,?_⟩
    have:(H++[HObj.list nums]).length=H.length+1:=by rw [List.length_append];rfl
    rw [this]
    refine q ys (hl'.trans ln) fun x hx=>?_
    obtain ⟨j,hj⟩:=List.mem_iff_getElem?.mp hx
    exact hp j x hj
theorem Aem {K:Hp} {l c k:Nat} {g:List (List Val)} {w nums:List Val} (og:OkG g k c) (G:GAt K l (l+2) 2 g) (hK:K.length=l+1+2 * k) (lw:w.length=c) (hw:∀ v∈w,HV v) :
    OkG (g++[w]) (k+1) c /\ GAt (((K++[HObj.list nums])++[HObj.list w]).set l (HObj.list ((List.range g.length).map (fun i=>Val.loc (l+2+2 * i))++[Val.loc (K.length+1)]))) l (l+2) 2 (g++[w]):=by
  have lK:(K++[HObj.list nums]).length=K.length+1:=by rw [List.length_append];rfl
  have e2:Ext K (K++[HObj.list nums]++[HObj.list w]):=⟨[HObj.list nums,HObj.list w],by rw [List.append_assoc];rfl⟩
  refine ⟨⟨by rw [List.length_append,og.len];rfl,fun i z h=>?_⟩,⟨?_,fun i z h=>?_⟩⟩
  · rcases Wb h with h | ⟨_,rfl⟩
    · exact og.row i z h
    · exact ⟨lw,hw⟩
  · rw [Ch _ (e2.get G.top),List.length_append,List.length_singleton,List.range_succ,List.map_append,List.map_singleton,og.len,hK,show l+1+2 * k+1=l+2+2 * k by exact App]
  · rcases Wb h with h | ⟨rfl,rfl⟩
    · exact Ak _ (by exact Akg) (e2.get (G.row i z h))
    · refine Ak _ (by exact Akg) ?_
      have:=Ax (K++[HObj.list nums]) (.list z)
      rw [lK,hK] at this
      rw [og.len,show l+2+2 * k=l+1+2 * k+1 by exact Apq]
      exact this
inductive GInv (x0 x1 x2:Val) (l c:Nat):Nat -> Env' -> Hp -> Prop
  | mk {k:Nat} {K:Hp} (g:List (List Val)) (a b:Option Val) (og:OkG g k c) (G:GAt K l (l+2) 2 g) (hK:K.length=l+1+2 * k):GInv x0 x1 x2 l c k [some x0,some x1,some x2,some (.loc l),a,b] K
theorem Z1 (ns:List Int):Wp (Ag T_12 (d+3) 11 [.script ns]) H (fun v H'=>∃ r c g l,v=.loc l /\ OkS r c /\ r * c <= 63 /\ OkG g r c /\ GAt H' l (l+2) 2 g) NoE:=by
  refine ex2 (Z0 (d:=d+1) (J0 ns 0)) fun r c zz=>Ac zz fun zn2 hsz=>?_;obtain ⟨hS,hrc⟩:=zn2
  have hS':=hS
  unfold OkS at hS'
  rw [A0 (g:=Abh) rfl rfl]
  refine A1 (fun v H'=>v=.tup [.int r,.int c] /\ Ext H H') ?_ ?_
  · show Wp (Ag T_12 (d+2) 7 [.script ns,.int ((0:Nat):Int)]) H _ _
    rw [Fl]
    exact hsz H
  clear hsz
  rintro _ H1 ⟨rfl,e1⟩
  refine A1 (fun v K=>∃ k:Nat,v=.int k /\ H1=K) ?_ ?_
  · show Wp (Ag T_12 (d+2) 7 [.script ns,.int ((1:Nat):Int)]) H1 _ _
    rw [Fl]
    refine ex1 (Ct (J0 ns 1) 4 (by decide)) fun k zz=>Ac zz fun hk _=>?_
    exact ⟨by decide,k,congrArg Val.int hk,rfl⟩
  rintro _ _ ⟨kind,rfl,rfl⟩
  refine A1 (fun v K=>v=.loc H1.length /\ K=H1++[.list []]) ⟨rfl,rfl⟩ ?_
  rintro _ _ ⟨rfl,rfl⟩
  obtain ⟨I,hI⟩:=Hm (GInv (.script ns) (.tup [.int r,.int c]) (.int kind) H1.length c)
  refine Fc (I r) ?_ ?_
  · refine C1 (n:=r) I ⟨rfl,rfl⟩ ⟨by exact Aid hS',by exact Aie hS'⟩ ((hI _ _ _).mpr (.mk [] _ _ ⟨rfl,fun i w h=>nomatch h⟩ ⟨Ax H1 _,fun i w h=>nomatch h⟩ (by rw [List.length_append];rfl))) ?_ (fun Γ K h=>by rw [Int.toNat_natCast] at h;exact h)
    intro k Γ K hk h
    obtain ⟨g,a,b,og,G,hK⟩:=(hI _ _ _).mp h
    refine A1 _ (Ael hS (by exact Aar hk)) ?_
    intro _ K1 zz
    refine ex1 zz fun nums zz=>By zz fun zr1 zr2 ln hn=>?_;subst zr1;subst zr2
    refine Ahc G.top (by rw [List.length_map,List.length_range,og.len];exact Apr hk hS') (by exact Aps hS' ln) ln hn fun w lw hw=>(hI _ _ _).mpr ?_
    obtain ⟨og',G'⟩:=Aem (nums:=nums) og G hK lw hw
    exact .mk _ _ _ og' G' (by rw [List.length_set,List.length_append,List.length_append,hK];show _+1+1=_;exact Apt)
  intro Γ K h
  obtain ⟨g,a,b,og,G,_⟩:=(hI _ _ _).mp h
  exact ⟨r,c,g,_,rfl,hS,hrc,og,G⟩
theorem Afl {a b:ME} {P:Hp -> Prop} (h:wpE T Φ a Γ H (fun v H'=>v=.bool false /\ P H') NoE) (q:∀ K,P K -> wpE T Φ b Γ K Q NoE):wpE T Φ (.or a b) Γ H Q NoE:=by
  rw [Km];refine Ao h ?_
  rintro v K ⟨rfl,p⟩;exact q K p
theorem Qa (K:Hp) (a b:Val) (h:Ev K a b=some true):C2 .ne a b K=some false:=by
  show Xm true (Ev K a b)=_
  rw [h];rfl
theorem Ak8 {l b s r c:Nat} {g:List (List Val)} (hS:OkS r c) (og:OkG g r c) (G:GAt H l b s g):∃ w x,g[0]?=some w /\ w[0]?=some x /\ HV x /\ w.length=c /\ ((List.range g.length).map fun i=>Val.loc (b+s * i))[0]?=some (.loc b) /\ H[b]?=some (.list w):=by
  unfold OkS at hS
  have lt:0 < g.length:=by rw [og.len];exact Ahx hS
  have hg:g[0]?=some g[0]:=List.getElem?_eq_getElem lt
  obtain ⟨lw,hw⟩:=og.row 0 _ hg
  have lt':0 < g[0].length:=by exact Apu hS lt lw
  have hx:g[0][0]?=some g[0][0]:=List.getElem?_eq_getElem lt'
  exact ⟨g[0],g[0][0],hg,hx,hw _ (List.mem_of_getElem? hx),lw,G.item lt,G.row 0 _ hg⟩
theorem LandAt.sink {o r c lg b s ls:Nat} {g:List (List Val)} {es es':List (Key × Val)} (L:LandAt H o r c lg b s ls g es):LandAt (H.set ls (.dict es')) o r c lg b s ls g es':=by
  refine ex1 L.inst fun fs zz=>Ac zz fun h0 h=>?_
  have hs:=L.sinks
  exact ⟨⟨fs,Ak _ (fun q=>by rw [q,h0] at hs;exact nomatch hs) h0,h⟩,L.grid.other _ (fun q=>by have:=L.grid.top;rw [<- q,hs] at this;exact nomatch this) (fun i hi q=>by have:=L.grid.row i _ (List.getElem?_eq_getElem hi);rw [<- q,hs] at this;exact nomatch this),Ch _ hs⟩
theorem Mv {l b s r c:Nat} {g:List (List Val)} (og:OkG g r c):((List.range g.length).map fun i=>Val.loc (b+s * i)).length=r:=by rw [List.length_map,List.length_range,og.len]
end
theorem Z2 (es:List (Key × Val)) (k:Key) (v:Val) (k':Key):Ex (Hq es k v) k'=if k'=k then some v else Ex es k':=by
  unfold Ex
  induction es with
  | nil =>
    show List.lookup k' [(k,v)]=_
    rw [List.lookup_cons]
    by_cases q:k'=k
    · rw [if_pos q,q,beq_self_eq_true]
    · rw [if_neg q,beq_eq_false_iff_ne.mpr q]
  | cons e es ih =>
    obtain ⟨a,b⟩:=e
    have st:Hq ((a,b) :: es) k v=if a=k then (a,v) :: es else (a,b) :: Hq es k v:=rfl
    rw [st]
    by_cases q:a=k
    · refine q▸?_
      rw [if_pos rfl,List.lookup_cons,List.lookup_cons]
      by_cases c:k'=a
      · rw [if_pos c,c,beq_self_eq_true]
      · rw [if_neg c,beq_eq_false_iff_ne.mpr c]
    · rw [if_neg q,List.lookup_cons,List.lookup_cons,ih]
      by_cases c:k'=a
      · rw [c,beq_self_eq_true]
        exact (if_neg q).symm
      · rw [beq_eq_false_iff_ne.mpr c]
theorem Rg (es:List (Key × Val)) (k:Key) (v:Val):(Hq es k v).length <= es.length+1:=by
  induction es with
  | nil=>exact Nat.le_refl _
  | cons e es ih =>
    obtain ⟨a,b⟩:=e
    have st:Hq ((a,b) :: es) k v=if a=k then (a,v) :: es else (a,b) :: Hq es k v:=rfl
    rw [st]
    by_cases q:a=k
    · rw [if_pos q];simp
    · rw [if_neg q];simp;assumption
section
variable {T:Tab} {Φ:Funs} {Γ:Env'} {H:Hp} {Q:Val -> Hp -> Prop} {E:Nat -> Hp -> Prop} {d l:Nat} {QS:Env' -> Hp -> Prop} {R:Val -> Hp -> Prop} {ES:Nat -> Env' -> Hp -> Prop}
theorem Tb {l:Nat} {es:List (Key × Val)} {i j:Int} (h:H[l]?=some (.dict es)):C2 .notin (.tup [.int i,.int j]) (.loc l) H=some (!(Ex es (i,j)).isSome):=by
  have e:C2 .notin (.tup [.int i,.int j]) (.loc l) H=Xm true (inV (.tup [.int i,.int j]) (.loc l) H):=rfl
  rw [e]
  unfold inV
  simp only [h]
  rfl
noncomputable def inR (r c:Nat) (k:Key):Bool:=decide (0 <= k.1 /\ k.1 < r /\ 0 <= k.2 /\ k.2 < c)
theorem J2 {r c:Nat} {k:Key} (h:inR r c k=true):∃ i j:Nat,k=((i:Int),(j:Int)) /\ i < r /\ j < c:=by
  obtain ⟨a,b⟩:=k
  have h:0 <= a /\ a < r /\ 0 <= b /\ b < c:=of_decide_eq_true h
  exact ⟨a.toNat,b.toNat,Prod.ext (show a=(a.toNat:Int) by exact Apv h) (show b=(b.toNat:Int) by exact Apw h),by exact Apx h,by exact Apy h⟩
theorem Oi {r c i j:Nat} (hi:i < r) (hj:j < c):inR r c ((i:Int),(j:Int))=true:=decide_eq_true (show 0 <= (i:Int) /\ (i:Int) < r /\ 0 <= (j:Int) /\ (j:Int) < c by exact Apz hi hj)
noncomputable def Ak9 (g:List (List Val)) (k:Key):Option Val:=(g[k.1.toNat]?).bind fun w=>w[k.2.toNat]?
noncomputable def Atl:Option Val -> Option Int
  | some (.int i)=>some i
  | _=>none
noncomputable def hgt (g:List (List Val)) (r c:Nat) (k:Key):Option Int:=if inR r c k=true then Atl (Ak9 g k) else none
theorem Wg {g:List (List Val)} {r c:Nat} {k:Key} {a:Int} (h:hgt g r c k=some a):inR r c k=true:=by
  unfold hgt at h
  by_cases q:inR r c k=true
  · exact q
  · rw [if_neg q] at h;exact nomatch h
theorem Lq {g:List (List Val)} {r c i j:Nat} (og:OkG g r c) (hi:i < r) (hj:j < c):∃ w x,g[i]?=some w /\ w[j]?=some x /\ ((x=.none /\ hgt g r c ((i:Int),(j:Int))=none) \/ ∃ n,x=.int n /\ 0 <= n /\ hgt g r c ((i:Int),(j:Int))=some n):=by
  obtain ⟨w,hw⟩:∃ w,g[i]?=some w:=⟨_,List.getElem?_eq_getElem (by rw [og.len];exact hi)⟩
  obtain ⟨lw,hv⟩:=og.row i _ hw
  obtain ⟨x,hx⟩:∃ x,w[j]?=some x:=⟨_,List.getElem?_eq_getElem (by rw [lw];exact hj)⟩
  have e:Ak9 g ((i:Int),(j:Int))=some x:=by
    show (g[((i:Int)).toNat]?).bind (fun w=>w[((j:Int)).toNat]?)=_
    rw [Int.toNat_natCast,Int.toNat_natCast,hw]
    exact hx
  refine ⟨w,x,hw,hx,?_⟩
  unfold hgt
  rw [if_pos (Oi hi hj),e]
  rcases hv _ (List.mem_of_getElem? hx) with q | ⟨n,q,h0,_⟩
  · rw [q];exact .inl ⟨rfl,rfl⟩
  · rw [q];exact .inr ⟨n,rfl,h0,rfl⟩
theorem Qb {ks:List Key} {n:Nat} {x:Val} (h:(ks.map Ad)[n]?=some x):∃ q,ks[n]?=some q /\ x=Ad q:=by
  rw [List.getElem?_map] at h
  cases e:ks[n]? with
  | none=>rw [e] at h;cases h
  | some q=>rw [e] at h;cases h;exact ⟨q,rfl,rfl⟩
theorem Aen {it c:ME} {ks:List Key} {p:Key -> Bool} {n:Nat} (hn:Γ.length=n) (hl:H[l]?=some (.list (ks.map Ad))) (kl:ks.length < 1000) (hit:wpE T Φ it Γ H (fun v H'=>v=.loc l /\ H'=H) NoE)
    (ht:∀ q∈ks,wpE T Φ c (Γ++[some (Ad q)]) H (fun v H'=>v=.bool (p q) /\ H'=H) NoE) (q:Q (.loc H.length) (H++[.list ((ks.filter p).map Ad)])):wpE T Φ (.comp (.var n) it (.some c)) Γ H Q E:=by
  have hlid:lid=16777216:=rfl
  refine Mp (Ao hit ?_)
  rintro v H' ⟨rfl,rfl⟩
  rw [Cw (D8 hl)]
  refine Iq (fun k out K=>K=H' /\ out=((ks.take k).filter p).map Ad) ⟨rfl,rfl⟩ ?_ ?_ ?_
  · rintro k out K ⟨hr0,_⟩;refine Eq.symm hr0▸?_;exact Ek hl
  · rintro k x out K hx ⟨rfl,rfl⟩
    refine ex1 (Qb hx) fun q zz=>Ac zz fun hq zr2=>?_;subst zr2
    refine wp_step (Ao (ht q (List.mem_of_getElem? hq)) ?_)
    rintro v K' ⟨rfl,rfl⟩
    rw [Af,Gx hq,List.filter_append,List.map_append]
    refine Dh (fun h=>?_) (fun h=>?_)
    · rw [List.filter_cons_of_pos h,An,Du,List.getElem?_append_right (by exact Aib hn),hn,Nat.sub_self]
      exact ⟨rfl,rfl⟩
    · rw [List.filter_cons_of_neg (by rw [h];exact Bool.false_ne_true)]
      exact ⟨rfl,rfl⟩
  · rintro zs K ⟨rfl,rfl⟩
    rw [show ks.take (List.map Ad ks).length=ks by rw [List.length_map];exact List.take_length]
    refine ⟨?_,q⟩
    rw [List.length_map]
    have:=List.length_filter_le p ks
    exact Ap0 kl hlid this
end
noncomputable def keys (r c:Nat):List Key:=(List.range r).flatMap fun (i:Nat)=>(List.range c).map fun (j:Nat)=>((i:Int),(j:Int))
theorem Lr (r c:Nat):(keys r c).map Ad=cells r c:=by
  unfold keys cells Cb
  rw [List.map_flatMap]
  congr 1
  funext i
  rw [List.map_map];rfl
theorem Gy (r c:Nat):(keys r c).length=r * c:=by
  rw [<- J1,<- Lr,List.length_map]
theorem Cy {r c:Nat} {k:Key}:k∈keys r c↔inR r c k=true:=by
  unfold keys
  constructor
  · intro h
    refine ex1 (List.mem_flatMap.mp h) fun i zz=>Ac zz fun hi h=>?_
    refine ex1 (List.mem_map.mp h) fun j zz=>Ac zz fun hj hr0=>?_;refine hr0▸?_
    exact Oi (List.mem_range.mp hi) (List.mem_range.mp hj)
  · intro h
    refine ex2 (J2 h) fun i j zz=>As zz fun zr2 hi hj=>?_;subst zr2
    exact List.mem_flatMap.mpr ⟨i,List.mem_range.mpr hi,List.mem_map.mpr ⟨j,List.mem_range.mpr hj,rfl⟩⟩
theorem Dc {α:Type} {l:List α} {n:Nat} {x y:α} (h:l[n]?=some x):y∈l.take (n+1)↔(y∈l.take n \/ y=x):=by
  rw [Gx h,List.mem_append,List.mem_singleton]
noncomputable def Dm (i c:Nat):List Key:=(List.range c).map fun (j:Nat)=>((i:Int),(j:Int))
theorem Oj (r c:Nat):keys (r+1) c=keys r c++Dm r c:=by
  unfold keys Dm;rw [List.range_succ];simp
theorem Ol (i c:Nat):Dm i (c+1)=Dm i c++[((i:Int),(c:Int))]:=by
  unfold Dm;rw [List.range_succ,List.map_append];rfl
theorem Qc (i c:Nat):(Dm i c).length=c:=by unfold Dm;rw [List.length_map,List.length_range]
noncomputable def Kn (g:List (List Val)) (r c:Nat) (n e:Int) (k:Key):Bool:=(hgt g r c k).isSome && decide (Int.fmod (n+(k.1 * c+k.2) * (1+Int.fmod (Int.fdiv n 12) 5)) e=0)
section
variable {T:Tab} {Φ:Funs} {Γ:Env'} {H K:Hp} {Q:Val -> Hp -> Prop} {E:Nat -> Hp -> Prop} {d:Nat} {QS:Env' -> Hp -> Prop} {R:Val -> Hp -> Prop} {ES:Nat -> Env' -> Hp -> Prop} {l b s r c:Nat} {g:List (List Val)}
theorem Aeo (hS:OkS r c) (og:OkG g r c) (G:GAt H l b s g):∃ w,((List.range g.length).map fun i=>Val.loc (b+s * i))[0]?=some (.loc b) /\ H[b]?=some (.list w) /\ w.length=c:=by
  refine ex2 (Ak8 hS og G) fun w x zz=>Kp zz fun _ _ _ lw hi hr=>?_
  exact ⟨w,hi,hr,lw⟩
theorem Ala {w:List Val} (h1:((List.range g.length).map fun i=>Val.loc (b+s * i))[0]?=some (.loc b)) (top:H[l]?=some (.list ((List.range g.length).map fun i=>Val.loc (b+s * i)))) (h2:H[b]?=some (.list w)):Wp (En (.loc l) (.int 0)) H (fun v H'=>Wp (bfV .len [v]) H' Q E) E=Q (.int (w.length:Nat)) H:=by
  rw [show (0:Int)=((0:Nat):Int) from rfl,Dl top h1,Bj h2]
theorem Ahd {i j:Nat} {w:List Val} {x:Val} (G:GAt H l b s g) (hw:g[i]?=some w) (hx:w[j]?=some x):Wp (En (.loc l) (.int (i:Int))) H (fun v H'=>Wp (En v (.int (j:Int))) H' Q E) E=Q x H:=by
  rw [Dl G.top (G.item (List.getElem?_eq_some_iff.mp hw).1),Dl (G.row i w hw) hx]
theorem Aep {i j:Nat} {n e:Int} {x0 x4:Val} (og:OkG g r c) (G:GAt H l b s g) (hi:i < r) (hj:j < c) (h0:e≠0) (sm:small ((i:Int) * (c:Int)+(j:Int))=true) :
    wpE T_12 (Ag T_12 (d+1)) (.and (.cmp .isNot (.sub (.sub (.var 1) (.var 5)) (.var 6)) .none) (.cmp .eq (.bin .mod (.bin .add (.var 2) (.bin .mul (.var 7) (.bin .add (.int 1) (.bin .mod (.bin .fdiv (.var 2) (.int 12)) (.int 5))))) (.var 3)) (.int 0)))
      [some x0,some (.loc l),some (.int n),some (.int e),some x4,some (.int (i:Int)),some (.int (j:Int)),some (.int ((i:Int) * (c:Int)+(j:Int)))] H (fun v K=>v=.bool (Kn g r c n e ((i:Int),(j:Int))) /\ K=H) NoE:=by
  refine ex2 (Lq og hi hj) fun w' y zz=>As zz fun hw' hy hcase=>?_
  show Wp (En (.loc l) (.int (i:Int))) H (fun v H'=>Wp (En v (.int (j:Int))) H' _ _) _
  rw [Ahd G hw' hy]
  rcases hcase with ⟨rfl,hn⟩ | ⟨a,rfl,_,ha⟩
  · exact ⟨congrArg Val.bool (show false=((hgt g r c ((i:Int),(j:Int))).isSome && _) by rw [hn];rfl),rfl⟩
  · exact ⟨by decide,by decide,by rw [sm];rfl,h0,congrArg Val.bool (show decide _=((hgt g r c ((i:Int),(j:Int))).isSome && decide _) by rw [ha];rfl),rfl⟩
theorem Aeq {ns:List Int} {ks:List Key} {i j:Nat} {n e:Int} {a7:Option Val} (hS:OkS r c) (og:OkG g r c) (G:GAt K l b s g) (hi:i < r) (hj:j < c) (h0:e≠0) (kl:ks.length < 1000)
    (q:∀ a7,QS [some (.script ns),some (.loc l),some (.int n),some (.int e),some (.loc K.length),some (.int (i:Int)),some (.int (j:Int)),a7] (K++[.list ((ks++[((i:Int),(j:Int))].filter (Kn g r c n e)).map Ad)])) :
    wpSs T_12 (Ag T_12 (d+1)) zT3 [some (.script ns),some (.loc l),some (.int n),some (.int e),some (.loc K.length),some (.int (i:Int)),some (.int (j:Int)),a7] (K++[.list (ks.map Ad)]) QS R NoX:=by
  have hlid:lid=16777216:=rfl
  unfold OkS at hS
  have GK:GAt (K++[.list (ks.map Ad)]) l b s g:=G.ext ⟨_,rfl⟩
  have mul:=Nat.mul_le_mul (show i <= 29 by exact Akd hS hi) (show c <= 30 by exact Afn hS)
  have sm:small ((i:Int) * (c:Int)+(j:Int))=true:=by
    rw [show ((i:Int) * (c:Int)+(j:Int))=((i * c+j:Nat):Int) by rw [Int.natCast_add,Int.natCast_mul]]
    unfold small;simp;omega
  have smi:small (i:Int)=true:=by unfold small;simp;exact Ake hS hi
  refine A1 (fun v K'=>v=.int ((i:Int) * (c:Int)+(j:Int)) /\ K'=K++[.list (ks.map Ad)]) ?_ ?_
  · refine ex1 (Aeo (by unfold OkS;exact hS) og GK) fun w zz=>As zz fun h1 h2 lw=>?_
    simp only [↓C7,↓D5,↓Am,↓Au,↓Di,↓An,↓Co,↓N5,↓Aj]
    rw [Ala h1 GK.top h2,lw]
    exact ⟨by rw [smi];rfl,rfl,rfl⟩
  rintro v K' ⟨rfl,rfl⟩
  refine Ao (Aep og GK hi hj h0 sm) ?_
  rintro v K' ⟨rfl,rfl⟩
  refine Dh (fun h=>?_) (fun h=>?_)
  · rw [List.filter_cons_of_pos h] at q
    refine C0 (fun K'=>K'=K++[.list ((ks++[((i:Int),(j:Int))]).map Ad)]) ?_ (fun K' h=>by rw [h];exact q _)
    refine Bk rfl (Ax K _) ?_
    refine ⟨_,Ax K _,by rw [List.length_map];exact Akf kl hlid,?_⟩
    rw [Wc,List.map_append];rfl
  · rw [List.filter_cons_of_neg (by rw [h];exact Bool.false_ne_true),List.filter_nil,List.append_nil] at q
    exact q _
theorem Z3 (n:Int):∃ e:Int,e≠0 /\ ∀ (x0 x1:Val) (H:Hp),wpE T_12 (Ag T_12 d) (.sub (.list (.cons (.int 2) (.cons (.int 3) (.cons (.int 5) (.cons (.int 9) (.cons (.int 14) .nil)))))) (.bin .mod (.bin .fdiv (.var 2) (.int 60)) (.int 5))) [some x0,some x1,some (.int n),none,none,none,none,none] H (fun v K=>v=.int e /\ Ext H K) NoE:=by
  refine ex1 (Ct (Int.fdiv n 60) 5 (by decide)) fun k zz=>Ac zz fun hk lk=>?_
  obtain ⟨e,he⟩:∃ e,([2,3,5,9,14]:List Int)[k]?=some e:=⟨_,List.getElem?_eq_getElem lk⟩
  have h0:∀ e∈([2,3,5,9,14]:List Int),e≠0:=by decide
  refine ⟨e,h0 e (List.mem_of_getElem? he),fun x0 x1 H=>⟨by decide,by decide,?_⟩⟩
  rw [show Int.fmod (Int.fdiv n 60) 5=(k:Int) from hk]
  refine V0 (Ax H _) (by exact Ap1 lk) ?_ ⟨rfl,⟨_,rfl⟩⟩
  show (([2,3,5,9,14]:List Int).map Val.int)[k]?=_
  rw [List.getElem?_map,he];rfl
theorem Qd (ns:List Int) (hS:OkS r c) (og:OkG g r c) (G:GAt H l b s g) :
    Wp (Ag T_12 (d+2) 12 [.script ns,.loc l]) H (fun v H'=>∃ m n e,v=.loc m /\ H.length <= m /\ Ext H H' /\ H'[m]?=some (.list (((keys r c).filter (Kn g r c n e)).map Ad))) NoE:=by
  have hS':=hS
  unfold OkS at hS'
  rw [A0 (g:=Abi) rfl rfl]
  refine A1 (fun v K=>∃ n,v=.int n /\ K=H) ?_ ?_
  · show Wp (Ag T_12 (d+1) 7 [.script ns,.int ((2:Nat):Int)]) H _ _
    rw [Fl]
    exact ⟨_,rfl,rfl⟩
  rintro v K ⟨n,rfl,rfl⟩
  refine ex1 (Z3 (d:=d+1) n) fun e zz=>Ac zz fun h0 he=>?_
  refine A1 _ (he _ _ _) ?_
  clear he
  rintro v H1 ⟨rfl,e1⟩
  have G1:=G.ext e1
  refine A1 (fun v K=>v=.loc H1.length /\ K=H1++[.list (([]:List Key).map Ad)]) ⟨rfl,rfl⟩ ?_
  rintro v K ⟨rfl,rfl⟩
  have ll:=Mv og (b:=b) (s:=s) (l:=l)
  obtain ⟨I,hI⟩:=Hm (fun (i:Nat) (Γ:Env') (K:Hp)=>∃ a5 a6 a7,Γ=[some (.script ns),some (.loc l),some (.int n),some (.int e),some (.loc H1.length),a5,a6,a7] /\ K=H1++[.list (((keys i c).filter (Kn g r c n e)).map Ad)])
  refine Fc (I r) ?_ ?_
  · refine C1 (n:=r) I ?_ ⟨by exact Ap2 hS' ll,by exact Ap3 hS' ll⟩ ((hI _ _ _).mpr ⟨_,_,_,rfl,rfl⟩) ?_ (fun Γ K h=>by rw [Int.toNat_natCast] at h;exact h)
    · show Wp (bfV .len [.loc l]) _ _ _
      rw [Bj (Ext.get ⟨_,rfl⟩ G1.top),ll];exact ⟨rfl,rfl⟩
    · intro i Γ K hi h
      refine ex3 ((hI _ _ _).mp h) fun a5 a6 a7 zz=>Ac zz fun zr3 zr4=>?_;subst zr3;subst zr4
      have hi':i < r:=by exact Ap4 hi ll
      obtain ⟨J,hJ⟩:=Hm (fun (j:Nat) (Γ:Env') (K:Hp)=>∃ a6 a7,Γ=[some (.script ns),some (.loc l),some (.int n),some (.int e),some (.loc H1.length),some (.int (i:Int)),a6,a7] /\ K=H1++[.list (((keys i c++Dm i j).filter (Kn g r c n e)).map Ad)])
      refine C1 (n:=c) J ?_ ⟨by exact Akh hS',by exact Aki hS'⟩ ((hJ _ _ _).mpr ⟨_,_,rfl,by rw [show Dm i 0=[] from rfl,List.append_nil]⟩) ?_ ?_
      · refine ex1 (Aeo hS og G1) fun w zz=>As zz fun h1 h2 lw=>?_
        have e0:Ext H1 (H1++[HObj.list (((keys i c).filter (Kn g r c n e)).map Ad)]):=⟨_,rfl⟩
        show Wp (En (.loc l) (.int 0)) _ (fun v H'=>Wp (bfV .len [v]) H' _ _) _
        rw [Ala h1 (e0.get G1.top) (e0.get h2),lw];exact ⟨rfl,rfl⟩
      · intro j Γ K hj h
        refine ex2 ((hJ _ _ _).mp h) fun a6 a7 zz=>Ac zz fun zr2 zr3=>?_;subst zr2;subst zr3
        refine Aeq hS og G1 hi' (by exact Aar hj) h0 ?_ fun a7=>(hJ _ _ _).mpr ⟨_,_,rfl,?_⟩
        · have:=List.length_filter_le (Kn g r c n e) (keys i c++Dm i j)
          rw [List.length_append,Gy,Qc] at this
          have:=Nat.mul_le_mul (show i <= 29 by exact Ap5 hi hS' ll) (show c <= 30 by exact Afn hS')
          omega
        · rw [Ol,<- List.append_assoc,<- List.filter_append]
      · intro Γ K h
        refine ex2 ((hJ _ _ _).mp h) fun a6 a7 zz=>Ac zz fun zr2 zr3=>?_;subst zr2;subst zr3
        refine (hI _ _ _).mpr ⟨_,_,_,rfl,?_⟩
        rw [Int.toNat_natCast,<- Oj]
  intro Γ K h
  refine ex3 ((hI _ _ _).mp h) fun a5 a6 a7 zz=>Ac zz fun zr3 zr4=>?_;subst zr3;subst zr4
  exact ⟨H1.length,n,e,rfl,e1.len,e1.trans ⟨_,rfl⟩,Ax H1 _⟩
end
theorem J3 (es:List (Key × Val)) (k:Key) (v:Val) (k':Key):inD (Hq es k v) (Ad k')=true↔(inD es (Ad k')=true \/ k'=k):=by
  show (Ex (Hq es k v) k').isSome=true↔((Ex es k').isSome=true \/ k'=k)
  rw [Z2]
  by_cases e:k'=k
  · rw [if_pos e];exact ⟨fun _=>.inr e,fun _=>rfl⟩
  · rw [if_neg e];exact ⟨fun h=>.inl h,fun h=>h.resolve_right e⟩
noncomputable def Xr (es:List (Key × Val)):Prop:=(es.map Prod.fst).Nodup
theorem Wh (es:List (Key × Val)) (k:Key) (v:Val) (x:Key):x∈(Hq es k v).map Prod.fst -> x∈es.map Prod.fst \/ x=k:=by
  induction es with
  | nil=>intro h;cases h with
    | head=>exact .inr rfl
    | tail _ h=>cases h
  | cons e es ih =>
    obtain ⟨a,b⟩:=e
    have st:Hq ((a,b) :: es) k v=if a=k then (a,v) :: es else (a,b) :: Hq es k v:=rfl
    rw [st]
    by_cases q:a=k
    · rw [if_pos q];exact .inl
    · rw [if_neg q]
      intro h
      cases h with
      | head=>exact .inl (.head _)
      | tail _ h=>exact (ih h).imp (fun h=>.tail _ h) id
theorem Om {es:List (Key × Val)} (h:Xr es) (k:Key) (v:Val):Xr (Hq es k v):=by
  induction es with
  | nil=>exact List.nodup_cons.mpr ⟨List.not_mem_nil,.nil⟩
  | cons e es ih =>
    obtain ⟨a,b⟩:=e
    obtain ⟨h1,h2⟩:=List.nodup_cons.mp h
    have st:Hq ((a,b) :: es) k v=if a=k then (a,v) :: es else (a,b) :: Hq es k v:=rfl
    rw [st]
    by_cases q:a=k
    · rw [if_pos q];exact h
    · rw [if_neg q]
      exact List.nodup_cons.mpr ⟨fun m=>(Wh es k v a m).elim h1 q,ih h2⟩
section
variable {T:Tab} {Φ:Funs} {Γ:Env'} {H K:Hp} {Q:Val -> Hp -> Prop} {E:Nat -> Hp -> Prop} {d:Nat} {QS:Env' -> Hp -> Prop} {R:Val -> Hp -> Prop} {ES:Nat -> Env' -> Hp -> Prop} {l b s r c:Nat} {g:List (List Val)}
theorem Rh (hS:OkS r c) (og:OkG g r c) (G:GAt H l b s g):Wp (En (.loc l) (.int 0)) H (fun v H'=>Wp (bfV .len [v]) H' Q E) E=Q (.int (c:Int)) H:=by
  refine ex1 (Aeo hS og G) fun w zz=>As zz fun h1 h2 lw=>?_
  rw [show (0:Int)=((0:Nat):Int) from rfl,Dl G.top h1,Bj h2,lw]
end
theorem Gz {K:Hp} {a b:Nat} {o o':HObj} (h:K[a]?=some o) (h':K[b]?=some o') (n:o≠o'):a≠b:=fun e=>n (Option.some.inj (by rw [<- h,<- h',e]))
theorem wvr {T:Tab} {Φ:Funs} {H:Hp} {Q:Val -> Hp -> Prop} {E:Nat -> Hp -> Prop} {Γ:Env'} {i:Nat} {v:Val} (h:Γ[i]?=some (some v)):wpE T Φ (.var i) Γ H Q E=Q v H:=Bl h
theorem wcv {T:Tab} {Φ:Funs} {H:Hp} {Q:List Val -> Hp -> Prop} {E:Nat -> Hp -> Prop} {Γ:Env'} {i:Nat} {v:Val} {es:MEs} (h:Γ[i]?=some (some v)):wpEs T Φ (.cons (.var i) es) Γ H Q E=wpEs T Φ es Γ H (fun vs H=>Q (v :: vs) H) E:=Bl h
theorem wat {T:Tab} {Φ:Funs} {H:Hp} {Q:Val -> Hp -> Prop} {E:Nat -> Hp -> Prop} {Γ:Env'} {i o c n:Nat} {fs:List (Nat × Val)} {v:Val} (h:Γ[i]?=some (some (.loc o))) (f0:H[o]?=some (.inst c fs)) (f1:fs.lookup n=some v):wpE T Φ (.attr (.var i) n) Γ H Q E=Q v H:=by rw [Fa,wvr h,Cc f0 f1]
theorem Wi {es:List (Key × Val)} {k:Key} (h:¬ k∈es.map Prod.fst):Ex es k=none:=by
  induction es with
  | nil=>rfl
  | cons e es ih =>
    obtain ⟨a,b⟩:=e
    show List.lookup k ((a,b) :: es)=none
    rw [List.lookup_cons,beq_eq_false_iff_ne.mpr fun q:k=a=>h (q▸.head _)]
    exact ih fun m=>h (.tail _ m)
theorem Z4 {es:List (Key × Val)} (h:Xr es) (k k':Key):Ex (M4 es k) k'=if k'=k then none else Ex es k':=by
  induction es with
  | nil=>skip;split <;> rfl
  | cons e es ih =>
    obtain ⟨a,b⟩:=e
    obtain ⟨h1,h2⟩:=List.nodup_cons.mp h
    have st:M4 ((a,b) :: es) k=if a=k then es else (a,b) :: M4 es k:=rfl
    have lk:∀ es',Ex ((a,b) :: es') k'=if k'=a then some b else Ex es' k':=fun es'=>by
      show List.lookup k' ((a,b) :: es')=_
      rw [List.lookup_cons]
      by_cases q:k'=a
      · rw [if_pos q,q,beq_self_eq_true]
      · rw [if_neg q,beq_eq_false_iff_ne.mpr q];rfl
    rw [st]
    by_cases q:a=k
    · rw [if_pos q]
      by_cases q':k'=k
      · rw [if_pos q',q',<- q];exact Wi h1
      · rw [if_neg q',lk,if_neg fun e=>q' (e.trans q)]
    · rw [if_neg q,lk,ih h2,lk]
      by_cases q':k'=k
      · rw [if_pos q',if_pos q',if_neg fun e=>q (e.symm.trans q')]
      · rw [if_neg q',if_neg q']
theorem Ahe {es:List (Key × Val)} (h:Xr es) (k k':Key):inD (M4 es k) (Ad k')=true↔(inD es (Ad k')=true /\ k'≠k):=by
  show (Ex (M4 es k) k').isSome=true↔((Ex es k').isSome=true /\ k'≠k)
  rw [Z4 h]
  by_cases e:k'=k
  · rw [if_pos e];exact ⟨(fun h=>nomatch h),fun h=>absurd e h.2⟩
  · rw [if_neg e];exact ⟨fun h=>⟨h,e⟩,fun h=>h.1⟩
theorem GAt.put {H:Hp} {l b s:Nat} {g:List (List Val)} (G:GAt H l b s g) (hs:1 <= s) {a:Nat} (hl:b+s * a≠l) (ha:a < g.length) (w:List Val):GAt (H.set (b+s * a) (.list w)) l b s (g.set a w):=by
  refine ⟨?_,fun i r h=>?_⟩
  · rw [List.length_set]
    exact Ak _ hl G.top
  · by_cases c:i=a
    · subst c
      rw [List.getElem?_set_self ha] at h
      cases h
      exact Ch _ (G.row i _ (List.getElem?_eq_getElem ha))
    · rw [List.getElem?_set_ne (fun e=>c e.symm)] at h
      refine Ak _ (fun e=>c ?_) (G.row i r h)
      have e:s * a=s * i:=by exact Ap6 e
      exact (Nat.eq_of_mul_eq_mul_left (by exact Ap7 hs) e).symm
theorem LandAt.put {H:Hp} {o r c lg b ls i:Nat} {g:List (List Val)} {es:List (Key × Val)} (L:LandAt H o r c lg b 1 ls g es) {w:List Val} (hw:g[i]?=some w) (hl:b+1 * i≠lg) (w':List Val):LandAt (H.set (b+1 * i) (.list w')) o r c lg b 1 ls (g.set i w') es:=by
  refine ex1 L.inst fun fs zz=>Ac zz fun h0 hf=>?_
  have hr:=L.grid.row i w hw
  exact ⟨⟨fs,Ak _ (Gz hr h0 fun e=>nomatch e) h0,hf⟩,L.grid.put (Nat.le_refl 1) hl (List.getElem?_eq_some_iff.mp hw).1 w',Ak _ (Gz hr L.sinks fun e=>nomatch e) L.sinks⟩
theorem OkG.put {g:List (List Val)} {r c i:Nat} (og:OkG g r c) {w:List Val} (hw:g[i]?=some w) (j:Nat) {x:Val} (hx:HV x):OkG (g.set i (w.set j x)) r c:=by
  refine ⟨by rw [List.length_set];exact og.len,fun n u hu=>?_⟩
  by_cases e:n=i
  · subst e
    rw [List.getElem?_set_self (List.getElem?_eq_some_iff.mp hw).1] at hu
    cases hu
    obtain ⟨h1,h2⟩:=og.row n w hw
    refine ⟨by rw [List.length_set];exact h1,fun v hv=>?_⟩
    rcases List.mem_or_eq_of_mem_set hv with h | h
    · exact h2 v h
    · rw [h];exact hx
  · rw [List.getElem?_set_ne (fun q=>e q.symm)] at hu
    exact og.row n u hu
theorem Mw {α:Type} {w:List α} {x y:α} {i:Nat} (h:w[i]?=some x):(w.set i y).set i x=w:=by
  rw [List.set_set]
  refine List.ext_getElem? fun n=>?_
  by_cases e:n=i
  · rw [e,List.getElem?_set_self (List.getElem?_eq_some_iff.mp h).1,h]
  · rw [List.getElem?_set_ne (fun q=>e q.symm)]
section
variable {T:Tab} {Φ:Funs} {Γ:Env'} {H K:Hp} {Q:Val -> Hp -> Prop} {E:Nat -> Hp -> Prop} {d:Nat} {QS:Env' -> Hp -> Prop} {R:Val -> Hp -> Prop} {ES:Nat -> Env' -> Hp -> Prop} {l r c m o lg b s ls i j:Nat} {g:List (List Val)} {es:List (Key × Val)}
theorem Wj (h:H[l]?=some (.dict es)):Ez .dpop (.loc l) H=some ():=if_pos (Tx h)
theorem Aer {a b:Int} (h:H[l]?=some (.dict es)) (hi:inD es (.tup [.int a,.int b])=true) (q:∀ x,Q x (H.set l (.dict (M4 es (a,b))))):Wp (bmV .dpop (.loc l) [.tup [.int a,.int b]]) H Q E:=by
  obtain ⟨x,hx⟩:=Option.isSome_iff_exists.mp (show (Ex es (a,b)).isSome=true from hi)
  refine Wp.of_eq (a:=x) (H':=H.set l (.dict (M4 es (a,b)))) ?_ (q x)
  unfold bmV
  simp only [h]
  show (match Ex es (a,b) with | some v=>Res.ok v (H.set l (.dict (M4 es (a,b)))) | none=>.bad)=_
  rw [hx]
theorem Ri (hi:i < r) (hj:j < c) (L:LandAt H o r c lg b s ls g es) (hd:inD es (Ad ((i:Int),(j:Int)))=true) :
    Wp (Ag T_12 (d+4) 25 [.loc o,.tup [.int (i:Int),.int (j:Int)]]) H (fun v K=>K=H.set ls (.dict (M4 es ((i:Int),(j:Int))))) NoE:=by
  refine Ah fun G kG=>?_
  refine ex1 L.inst fun fs zz=>Fe zz fun h0 h1 h2 h3 h4=>?_
  refine kG ?_
  rw [A0 (g:=Abt) rfl rfl]
  refine C0 (fun H'=>H'=H) (Iu (P:=fun K=>K=H) h0 (It hi hj L) rfl rfl rfl) ?_
  intro K e
  rw [e]
  clear e K
  refine Dv (fun K=>K=H) ?_ ?_
  · rw [Bg,wvr (v:=.tup [.int (i:Int),.int (j:Int)]) rfl,wat rfl h0 h4,Tb L.sinks]
    have:(Ex es ((i:Int),(j:Int))).isSome=true:=hd
    rw [this]
    exact ⟨rfl,rfl⟩
  intro K e
  rw [e]
  clear e K
  rw [Ae,Ca,N6,wat rfl h0 h4,Cw (Wj L.sinks),wcv (v:=.tup [.int (i:Int),.int (j:Int)]) rfl,Au]
  exact Aer L.sinks hd fun x=>rfl
theorem Ls {w:List Val} {h:Val} (hi:i < r) (hj:j < c) (og:OkG g r c) (L:LandAt H o r c lg b s ls g es) (hw:g[i]?=some w) (hh:HV h) (hn:h=.none -> es=[]) :
    Wp (Ag T_12 (d+4) 24 [.loc o,.tup [.int (i:Int),.int (j:Int)],h]) H (fun v K=>K=H.set (b+s * i) (.list (w.set j h))) NoE:=by
  refine Ah fun G kG=>?_
  refine ex1 L.inst fun fs zz=>Fe zz fun h0 h1 h2 h3 h4=>?_
  refine kG ?_
  have rr:=L.grid.row i w hw
  have lw:=(og.row i w hw).1
  have hne:o≠b+s * i:=Gz h0 rr (fun e=>nomatch e)
  have hns:ls≠b+s * i:=Gz L.sinks rr (fun e=>nomatch e)
  rw [A0 (g:=Abs) rfl rfl]
  refine C0 (fun H'=>H'=H) (Iu (P:=fun K=>K=H) h0 (It hi hj L) rfl rfl rfl) ?_
  intro K e
  rw [e]
  clear e K
  refine Dv (fun K=>K=H) ?_ ?_
  · rw [Es,A9,wcv (v:=h) rfl,Au,Lo hh]
    exact ⟨rfl,rfl⟩
  intro K e
  rw [e]
  clear e K
  rw [Ae,Dk,wvr (v:=h) rfl,Di,wat rfl h0 h3]
  show Wp (En (.loc lg) (.int (i:Int))) H _ _
  rw [Dl L.grid.top (L.grid.item (List.getElem?_eq_some_iff.mp hw).1)]
  show Wp (Bw (.loc (b+s * i)) (.int (j:Int)) h) H _ _
  rw [Gc rr (by exact Aas) (by exact Akj hj lw),Int.toNat_natCast]
  have k0:(H.set (b+s * i) (.list (w.set j h)))[o]?=some (.inst 5 fs):=Ak _ (Ne.symm hne) h0
  have ks:(H.set (b+s * i) (.list (w.set j h)))[ls]?=some (.dict es):=Ak _ (Ne.symm hns) L.sinks
  rw [Ae,Bv,Jp,Bg,wvr (v:=h) rfl,F9]
  rcases hh with rfl | ⟨n,rfl,_⟩
  · rw [hn rfl] at ks
    show wpE T_12 _ _ _ _ _ _
    rw [Bg,wvr (v:=.tup [.int (i:Int),.int (j:Int)]) rfl,wat rfl k0 h4,Wf ks]
    exact rfl
  · exact rfl
theorem C6 {n mm k x:Nat} {as:MEs} {P:Val -> Hp -> Prop} (L:LandAt H o r c lg b s ls g es) (hi:Γ[x]?=some (some (.loc o))) (hm:T_12.meth 5 mm=some k) {vs:List Val} (he:∀ {Q:List Val -> Hp -> Prop} {E:Nat -> Hp -> Prop},Q vs H -> wpEs T_12 (Ag T_12 n) as Γ H Q E) (h:Wp (Ag T_12 n k (.loc o :: vs)) H P NoE) :
    wpE T_12 (Ag T_12 n) (.umeth (.var x) mm as) Γ H P NoE:=by
  refine ex1 L.inst fun fs zz=>Ac zz fun f0 _=>?_
  rw [Fk,wvr hi]
  show Wp (Ee T_12 (.loc o) mm) H _ _
  rw [Mu f0 hm]
  exact he h
end
end Mine.Internal.Pure
namespace Mine.Internal.Pure
open PySem PySem.Builtin PySem.Builtin.Str
noncomputable def Ok (x:Str):Prop:=∀ c∈x.cps.toList,c < 0x110000
theorem J4 (x:Str):PyData.strOk x=true↔Ok x:=by
  unfold PyData.strOk Ok
  rw [<- Array.all_toList,List.all_eq_true]
  exact ⟨fun h c hc=>of_decide_eq_true (h c hc),fun h c hc=>decide_eq_true (h c hc)⟩
theorem Wk {x y:Str} (hx:Ok x) (hy:Ok y):Ok (x++y):=by
  intro c hc
  have e:(x++y).cps=x.cps++y.cps:=rfl
  rw [e,Array.toList_append,List.mem_append] at hc
  exact hc.elim (hx c) (hy c)
theorem Ahf {x:Str} (hx:Ok x) (i j:Nat):Ok (strSub x i j):=by
  intro c hc
  have e:(strSub x i j).cps=x.cps.extract i j:=rfl
  rw [e,Array.toList_extract] at hc
  exact hx c (List.mem_of_mem_drop (List.mem_of_mem_take hc))
theorem Aes (x:Str) (i j:Nat):(strSub x i j).length <= x.length:=by
  show (x.cps.extract i j).size <= x.cps.size
  rw [Array.size_extract];exact Ap8
theorem Rj {x y a:Str} (h:a∈Txt.split x y):a=x \/ ∃ i j,a=strSub x i j:=by
  unfold Txt.split at h
  split at h
  · exact .inl (List.mem_singleton.mp h)
  · split at h
    · exact .inl (List.mem_singleton.mp h)
    · unfold partsBetween at h
      refine ex1 (List.mem_map.mp h) fun p zz=>Ac zz fun _ e=>?_
      exact .inr ⟨p.1,p.2,e.symm⟩
theorem Wl {x y a:Str} (hx:Ok x) (h:a∈Txt.split x y):Ok a:=by
  rcases Rj h with e | ⟨i,j,e⟩
  · rw [e];exact hx
  · rw [e];exact Ahf hx i j
theorem Rk {x y a:Str} (h:a∈Txt.split x y):a.length <= x.length:=by
  rcases Rj h with e | ⟨i,j,e⟩
  · rw [e];exact Nat.le_refl _
  · rw [e];exact Aes x i j
theorem J5 (x y:Str):1 <= (Txt.split x y).length /\ (Txt.split x y).length <= x.length+2:=by
  unfold Txt.split
  split
  · exact ⟨Nat.le_refl _,by show 1 <= _;exact Akk⟩
  · split
    · exact ⟨Nat.le_refl _,by show 1 <= _;exact Akk⟩
    · have:=StrLaws.occ_length_le x y 0 x.length (x.length+1)
      rw [length_partsBetween]
      exact Ap9 this
theorem Rl {x:Str} (hx:Ok x) (l u:Option Int):Ok (Txt.slice x l u):=by
  unfold Txt.slice
  split
  · exact hx
  · intro c hc
    refine ex1 (List.mem_filterMap.mp hc) fun i zz=>Ac zz fun _ e=>?_
    obtain ⟨lt,e⟩:=Array.getElem?_eq_some_iff.mp e
    rw [<- e]
    exact hx _ (Array.mem_toList_iff.mpr (Array.getElem_mem lt))
theorem Ahg {x:Str} (hx:Ok x) {i c:Nat} (h:x.cps[i]?=some c):Ok ⟨#[c]⟩:=by
  intro b hb
  obtain ⟨lt,e⟩:=Array.getElem?_eq_some_iff.mp h
  have:b=c:=List.mem_singleton.mp hb
  rw [this,<- e]
  exact hx _ (Array.mem_toList_iff.mpr (Array.getElem_mem lt))
theorem Wm {s:Str} (hs:Ok s):∀ (xs:List Str),(∀ x∈xs,Ok x) -> Ok (Str.join s xs)
  | [],_=>fun c hc=>nomatch hc
  | [x],h=>h x (.head _)
  | x :: y :: r,h=>Wk (Wk (h x (.head _)) hs) (Wm hs (y :: r) fun a ha=>h a (.tail _ ha))
theorem Wn {s:Str} (hs:Ok s) {xs:List Str} (h:∀ x∈xs,Ok x):Ok (Txt.join s xs):=by
  show Ok (glued s xs)
  rw [StrLaws.glued_eq_join]
  exact Wm hs xs h
theorem Rm (s:Str) (xs:List Str):(Txt.join s xs).length <= (xs.map (·.length)).sum+xs.length * s.length:=by
  show (glued s xs).length <= _
  rw [StrLaws.glued_eq_join]
  exact StrLaws.join_length_le s xs
theorem Rn (xs:List Str) (n:Nat) (h:∀ x∈xs,x.length <= n):(xs.map (·.length)).sum <= xs.length * n:=by
  induction xs with
  | nil=>exact Nat.zero_le _
  | cons x xs ih =>
    have h1:=ih fun y hy=>h y (.tail _ hy)
    have h2:=h x (.head _)
    simp only [List.map_cons,List.sum_cons,List.length_cons,Nat.succ_mul]
    exact Aqa h1 h2
theorem Ahh (s:String):Ok (Str.ofString s):=by
  rw [Str.ofString_eq_toList]
  intro c hc
  refine ex1 (List.mem_map.mp hc) fun a zz=>Ac zz fun _ zr2=>?_;subst zr2
  have:=a.valid
  rcases this with h | ⟨_,h⟩
  · exact Nat.lt_trans h (by decide)
  · exact h
theorem Ahi (i:Int):Ok (Av i):=Ahh _
noncomputable def G0 (c:Nat):Bool:=decide (48 <= c) && decide (c <= 57)
theorem Ahj (c:Nat):Txt.contains ("0123456789":Str) ⟨#[c]⟩=G0 c:=by
  refine (StrLaws.found_one _ c).trans ?_
  unfold G0
  rw [show (("0123456789":Str).cps.toList)=[48,49,50,51,52,53,54,55,56,57] by decide +kernel]
  rw [Bool.eq_iff_iff,decide_eq_true_iff,Bool.and_eq_true,decide_eq_true_iff,decide_eq_true_iff]
  simp only [List.mem_cons,List.not_mem_nil,or_false]
  exact Aqb
noncomputable def Wo (u:Str):Bool:=decide (u.length=0) || (decide (10 < u.length) || ((decide (1 < u.length) && (u.cps[0]? == some 48)) || (!Kg u || decide (1000000000 < figVal u))))
noncomputable def hOf (u:Str):Option Int:=if Wo u=true then none else some (figVal u:Int)
noncomputable def Ci (w:Str):Bool:=w.cps[w.length - 1]? == some 42
noncomputable def O9 (w:Str):Str:=if Ci w=true then Txt.slice w none (some (-1)) else w
noncomputable def H8 (w:Str):Option Val:=if (w == ("#":Str))=true then some .none else (hOf (O9 w)).map .int
noncomputable def Mx (w:Str):Val:=(H8 w).getD (.int (-1))
noncomputable def drW (w:Str):Bool:=decide (1 < w.length) && Ci w
theorem Abv {w:Str} (h:Ok w):Ok (O9 w):=by
  unfold O9;split
  · exact Rl h _ _
  · exact h
theorem Z5 (n:Nat) (h:1 <= n):strSliceIndices (some (-1)) none 1 n=[n - 1]:=by
  have e:max (0:Int) (min (-1+n) n)=((n - 1:Nat):Int):=by exact Aqc h
  unfold strSliceIndices sliceRange
  simp only [show (1:Int) > 0 by decide,show (-1:Int) < 0 by decide,if_true,e]
  rw [if_pos (by exact Aqd h)]
  rw [show (((n:Int) - ((n - 1:Nat):Int)+1 - 1) / 1).toNat=1 by exact Aqe h]
  show [((((n - 1:Nat):Int)+1 * 0)).toNat]=_
  congr 1
set_option tactic.hygienic true in
theorem Tc (w:Str) (h:1 <= w.length):∃ c,w.cps[w.length - 1]?=some c /\ Txt.slice w (some (-1)) none=⟨#[c]⟩:=by
  have lt:w.length - 1 < w.cps.size:=by show w.cps.size - 1 < w.cps.size;have:1 <= w.cps.size:=h;exact o50 this
  refine ⟨w.cps[w.length - 1],Array.getElem?_eq_getElem lt,?_⟩
  unfold Txt.slice
  rw [Z5 _ h]
  split
  · rename_i q
    have q:(1 == w.length)=true:=q
    have q:=(beq_iff_eq.mp q).symm
    obtain ⟨⟨cs⟩⟩:=w
    have q:cs.length=1:=q
    obtain ⟨a,rfl⟩:=List.length_eq_one_iff.mp q
    rfl
  · show Str.mk (List.filterMap _ [w.length - 1]).toArray=_
    rw [List.filterMap_cons,Array.getElem?_eq_getElem lt]
    rfl
theorem Wq (w:Str) (h:w.length=0):Txt.slice w (some (-1)) none=w:=by
  unfold Txt.slice
  rw [h]
  rfl
theorem Aet (w:Str) (h:w.length=1):(Txt.slice w none (some (-1))).length=0:=by
  unfold Txt.slice
  rw [h]
  rfl
set_option tactic.hygienic true in
theorem Wr {u:Str} {n:Int} (h:hOf u=some n):1 <= u.length /\ 0 <= n /\ n <= 1000000000:=by
  unfold hOf at h
  split at h
  · exact nomatch h
  · rename_i q
    cases h
    unfold Wo at q
    simp only [Bool.or_eq_true,Bool.and_eq_true,decide_eq_true_eq,not_or] at q
    have:=q.1
    have:=q.2.2.2.2
    exact ⟨by omega,by omega,by omega⟩
theorem Ahk {w:Str} {v:Val} (h:H8 w=some v):HV v:=by
  unfold H8 at h
  split at h
  · cases h;exact .inl rfl
  · refine ex1 (Option.map_eq_some_iff.mp h) fun n zz=>Ac zz fun e zr2=>?_;subst zr2
    exact .inr ⟨n,rfl,(Wr e).2⟩
set_option tactic.hygienic true in
theorem G5 {w:Str} {v:Val} (h:H8 w=some v):drW w=(!(w == ("#":Str)) && Ci w):=by
  unfold H8 at h
  split at h
  · rename_i q
    rw [beq_iff_eq.mp q];decide +kernel
  · rename_i q
    rw [eq_false_of_ne_true q]
    refine ex1 (Option.map_eq_some_iff.mp h) fun n zz=>Ac zz fun e _=>?_
    show (decide (1 < w.length) && Ci w)=(true && Ci w)
    cases s:Ci w with
    | false=>rw [Bool.and_false,Bool.and_false]
    | true =>
      have l:=(Wr e).1
      unfold O9 at l
      rw [s,if_pos rfl] at l
      have:1 < w.length:=by
        by_cases c:w.length=1
        · have:=Aet w c;exact Aqf l this
        · have:=Txt.slice_le w none (some (-1));exact Aqg l this c
      rw [decide_eq_true this]
theorem Z6 {w:Str} {v:Val} (h:H8 w=some v) (s:drW w=true):∃ n,v=.int n:=by
  rw [G5 h,Bool.and_eq_true] at s
  unfold H8 at h
  have q:¬ (w == ("#":Str))=true:=by have:=s.1;rw [Bool.not_eq_true'] at this;rw [this];exact Bool.false_ne_true
  rw [if_neg q] at h
  refine ex1 (Option.map_eq_some_iff.mp h) fun n zz=>Ac zz fun _ zr2=>?_;subst zr2
  exact ⟨n,rfl⟩
section
variable {T:Tab} {Φ:Funs} {Γ:Env'} {H:Hp} {Q:Val -> Hp -> Prop} {E:Nat -> Hp -> Prop} {d:Nat} {QS:Env' -> Hp -> Prop} {R:Val -> Hp -> Prop} {ES:Nat -> Env' -> Hp -> Prop}
theorem Iv {x:Str} (h:Ok x) (n:Nat):Az H n (.str x)=some (.str x):=by
  have:Ql (.str x)=some (.str x):=if_pos ((J4 x).mpr h)
  cases n <;> exact this
theorem Ro {x y:Str} (hx:Ok x) (hy:Ok y) (k:Bool -> Prop):Dq (C2 .eq (.str x) (.str y) H) k=k (x == y):=by
  have e:C2 .eq (.str x) (.str y) H=some (x == y):=by
    show Ev H (.str x) (.str y)=_
    unfold Ev
    rw [Iv hx,Iv hy]
    rfl
  rw [e];rfl
theorem Ho (x:Str):Wp (bfV .len [.str x]) H Q E=Q (.int x.length) H:=rfl
theorem Ws (x:Str) (l h:Val) {a b:Option Int} (e1:Fx l=some a) (e2:Fx h=some b):Wp (I2 (.str x) l h) H Q E=Q (.str (Txt.slice x a b)) H:=by
  have:I2 (.str x) l h H=.ok (.str (Txt.slice x a b)) H:=by
    show M.ofOpt (Qn (.str x) l h) H=_
    have:Qn (.str x) l h=some (.str (Txt.slice x a b)):=by
      show ((Fx l).bind fun l=>(Fx h).map fun h=>Val.str (Txt.slice x l h))=_
      rw [e1,e2];rfl
    rw [this];rfl
  unfold Wp;rw [this]
theorem Ahl {x:Str} {k:Int} {p c:Nat} (hp:Bh k x.length=some p) (hc:x.cps[p]?=some c):Wp (En (.str x) (.int k)) H Q E=Q (.str ⟨#[c]⟩) H:=by
  have:En (.str x) (.int k) H=.ok (.str ⟨#[c]⟩) H:=by
    unfold En;rw [C4]
    simp only [hp,Option.bind_some,hc,Option.map_some]
  unfold Wp;rw [this]
theorem Z7 {x y:Str} (hy:(y.length == 0)=false) (hx:x.length+2 <= lid):Wp (bmV .split (.str x) [.str y]) H Q E=Q (.loc H.length) (H++[.list ((Txt.split x y).map .str)]):=by
  have:bmV .split (.str x) [.str y] H=M.alloc (.list ((Txt.split x y).map .str)) H:=if_pos ⟨hy,hx⟩
  unfold Wp;rw [this];rfl
theorem Aeu {x:Str} (h:Kg x=true) (h1:1 <= x.length) (h2:x.length <= 640):Wp (bfV .int [.str x]) H Q E=Q (.int (figVal x:Int)) H:=by
  have:bfV .int [.str x]=M.ret (.int (figVal x:Int)):=if_pos (by rw [h,decide_eq_true h1,decide_eq_true h2];rfl)
  rw [this];rfl
theorem Qe {i:Int} (h:small i=true):Wp (bfV .str [.int i]) H Q E=Q (.str (Av i)) H:=by
  have:bfV .str [.int i]=M.ret (.str (Av i)):=if_pos h
  rw [this];rfl
theorem Z8 (c:Nat) (k:Bool -> Prop):Dq (C2 .notin (.str ⟨#[c]⟩) (.str ("0123456789":Str)) H) k=k (!G0 c):=by
  show k (!Txt.contains ("0123456789":Str) ⟨#[c]⟩)=_
  rw [Ahj]
theorem Z9 (x:Str):Cj (.str x) H=some (x.cps.toList.map (fun c=>.str ⟨#[c]⟩),none):=rfl
theorem Wt {u:Str} {c:ME} {bad:MSs} {x1:Option Val} {rest:Env'} (hc:∀ ch (Q:Val -> Hp -> Prop) (E:Nat -> Hp -> Prop),Q (.bool (!G0 ch)) H -> wpE T Φ c (some (.str u) :: some (.str ⟨#[ch]⟩) :: rest) H Q E)
    (hb:Kg u=false -> ∀ ch,wpSs T Φ bad (some (.str u) :: some (.str ⟨#[ch]⟩) :: rest) H (fun _ _=>False) R NoX) (q:Kg u=true -> ∀ x,QS (some (.str u) :: x :: rest) H) :
    wpS T Φ (.each 1 (.var 0) (.cons (.ite c bad .nil) .nil)) (some (.str u) :: x1 :: rest) H QS R ES:=by
  refine Io ?_
  rw [An,Aj,Cw (Z9 u)]
  refine Fb (fun k Γ K=>H=K /\ (∃ x,Γ=some (.str u) :: x :: rest) /\ ∀ j ch,j < k -> u.cps.toList[j]?=some ch -> G0 ch=true) ⟨rfl,⟨_,rfl⟩,fun j ch h=>absurd h (Nat.not_lt_zero _)⟩ ?_ ?_ ?_
  · rintro _ _ ⟨rfl,⟨x,rfl⟩,h⟩
    refine q ?_ x
    rw [List.length_map] at h
    refine List.all_eq_true.mpr fun ch hc=>?_
    obtain ⟨j,hj⟩:=List.getElem?_of_mem hc
    exact h j ch (List.getElem?_eq_some_iff.mp hj).1 hj
  · intro k Γ K _ _;rfl
  · rintro k x _ _ hx ⟨rfl,⟨y,rfl⟩,h⟩
    rw [List.getElem?_map] at hx
    refine ex1 (Option.map_eq_some_iff.mp hx) fun ch zz=>Ac zz fun e zr2=>?_;subst zr2
    refine ⟨_,rfl,?_⟩
    show wpE T Φ c (some (.str u) :: some (.str ⟨#[ch]⟩) :: rest) H _ _
    refine hc ch _ _ ?_
    show brB (!G0 ch) _ _
    cases z:G0 ch with
    | true =>
      refine ⟨rfl,⟨_,rfl⟩,fun j c' hj e'=>?_⟩
      by_cases w:j < k
      · exact h j c' w e'
      · have:j=k:=by exact o1 hj w
        rw [this,e] at e'
        cases e'
        exact z
    | false =>
      refine N8 (hb ?_ ch) (fun _ _ h=>h.elim) (fun _ _ h=>h) (fun _ _ _ h=>h)
      cases f:Kg u with
      | false=>rfl
      | true =>
        have:=List.all_eq_true.mp f ch (List.mem_of_getElem? e)
        have:G0 ch=true:=this
        rw [z] at this
        exact nomatch this
end
section
variable {H:Hp} {Q:Val -> Hp -> Prop} {E:Nat -> Hp -> Prop} {d:Nat}
theorem Aev:T_12.globs[2]?=some (.str "0123456789"):=rfl
theorem Aew:(Av 1000000000).length=10:=by decide +kernel
theorem Ahm:Ok ("":Str):=(J4 _).mp (by decide +kernel)
theorem Aex:Ok ("0":Str):=(J4 _).mp (by decide +kernel)
theorem Wu:Ok ("*":Str):=(J4 _).mp (by decide +kernel)
theorem Rp:Ok ("#":Str):=(J4 _).mp (by decide +kernel)
theorem Aey (u:Str):(u == ("":Str))=decide (u.length=0):=by
  obtain ⟨⟨cs⟩⟩:=u
  cases cs with
  | nil=>decide +kernel
  | cons a cs =>
    have:¬ ((⟨⟨a :: cs⟩⟩:Str) == ("":Str))=true:=by
      rw [beq_iff_eq];intro e
      have:(⟨⟨a :: cs⟩⟩:Str).length=0:=by rw [e];decide +kernel
      exact nomatch this
    rw [eq_false_of_ne_true this]
    exact (decide_eq_false (show ¬ (a :: cs).length=0 from nofun)).symm
theorem Wv (a b:Nat) (s:Str) (h:s=⟨#[b]⟩):((⟨#[a]⟩:Str) == s)=(some a == some b):=by
  rw [h,Bool.eq_iff_iff,beq_iff_eq,beq_iff_eq]
  constructor
  · intro e
    have:(⟨#[a]⟩:Str).cps[0]?=(⟨#[b]⟩:Str).cps[0]?:=by rw [e]
    exact this
  · intro e;rw [Option.some.inj e]
theorem Ww {u:Str} {n:Int} (hu:Ok u) (hg:hOf u=some n):Wp (Ag T_12 (d+1) 5 [.str u]) H (fun v H'=>H'=H /\ v=.int n) NoE:=by
  rw [A0 (g:=Aeg) rfl rfl]
  have no:∀ {P:Prop},Wo u=true -> P:=fun h=>by rw [show hOf u=none from if_pos h] at hg;exact nomatch hg
  unfold Aeg
  show wpSs T_12 _ (.cons _ _) [some (.str u),none,none] H _ _ _
  rw [Ae,Bv,Km,Bg,An,Aj,H6,Ro hu Ahm,Aey,Af]
  by_cases c0:u.length=0
  · rw [C5 c0]
    exact no (by unfold Wo;rw [decide_eq_true c0];rfl)
  rw [Bu c0,Bg,D5,Am,An,Aj,Au,Ho,D5,Am,D5,Am,wp_glob,P8,Cs,Au,Qe (by decide),Au,Ho,Aew,S8,Af]
  by_cases c1:((10:Nat):Int) < (u.length:Int)
  · rw [C5 c1]
    exact no (by unfold Wo;rw [decide_eq_true (show 10 < u.length by exact Aqh c1),Bool.true_or,Bool.or_true])
  rw [Bu c1]
  show wpS T_12 (Ag T_12 d) (.each 1 (.var 0) zT11) [some (.str u),none,none] H _ _ _
  refine Wt (rest:=[none]) ?_ ?_ ?_
  · intro ch Q E h
    rw [Bg,An,N5,Aj,wp_glob,Aev,Cs,Z8];exact h
  · intro f ch
    exact no (by unfold Wo;rw [f];simp only [Bool.not_false,Bool.true_or,Bool.or_true])
  intro f x
  have l0:0 < u.cps.size:=by show 0 < u.length;exact Akl c1 c0
  have h0:u.cps[0]?=some u.cps[0]:=Array.getElem?_eq_getElem l0
  have fin:wpSs T_12 (Ag T_12 d) zT7 [some (.str u),x,none] H (fun _ H'=>H'=H /\ Val.none=.int n) (fun v H'=>H'=H /\ v=.int n) NoX \/ (decide (1 < u.length) && (u.cps[0]? == some 48))=true:=by
    by_cases z:(decide (1 < u.length) && (u.cps[0]? == some 48))=true
    · exact .inr z
    refine .inl ?_
    rw [Ae,Bt,D5,Am,An,Aj,Au,Aeu f (by exact Aqi c1 c0) (by exact Aqj c1)]
    show wpSs T_12 (Ag T_12 d) _ [some (.str u),x,some (.int (figVal u:Int))] H _ _ _
    rw [Ae,Bv,Bg,An,A3,A3,Aj,wp_glob,P8,Cs,S8,Af]
    have hb:Wo u=decide (1000000000 < figVal u):=by
      unfold Wo
      rw [decide_eq_false c0,decide_eq_false (show ¬ 10 < u.length by exact Aqk c1),eq_false_of_ne_true z,f]
      rfl
    by_cases c2:(1000000000:Int) < (figVal u:Int)
    · rw [C5 c2]
      exact no (hb.trans (decide_eq_true (by exact Aql c2)))
    · rw [Bu c2]
      have:hOf u=some (figVal u:Int):=if_neg (by rw [hb,decide_eq_false (by exact Aqm c2)];exact Bool.false_ne_true)
      show P4 [x,some (.int (figVal u:Int))] 1 _
      rw [A3,Aj]
      rw [hg] at this
      cases this
      exact ⟨rfl,rfl⟩
  show wpE T_12 (Ag T_12 d) (.and (.cmp .eq (.sub (.var 0) (.int 0)) (.str "0")) (.cmp .gt (.bf .len (.cons (.var 0) .nil)) (.int 1))) [some (.str u),x,none] H _ _
  rw [Jp,Bg,Di,An,Aj,Co,Ahl (k:=0) (p:=0) (show Bh 0 u.length=some 0 from Od 0 u.length (by exact Akl c1 c0)) h0,H6,Ro (Ahg hu h0) Aex,Wv _ 48 _ (by decide +kernel),<- h0,Af]
  refine Dh (fun z=>?_) fun z=>?_
  · rw [Bg,D5,Am,An,Aj,Au,Ho,Co,S8,Af]
    by_cases c2:(1:Int) < (u.length:Int)
    · rw [C5 c2]
      exact no (by unfold Wo;rw [z,decide_eq_true (show 1 < u.length by exact Aqn c2 c1)];simp only [Bool.and_true,Bool.true_or,Bool.or_true])
    · rw [Bu c2]
      refine fin.resolve_right ?_
      rw [decide_eq_false (show ¬ 1 < u.length by exact Aqo c1 c2)]
      exact Bool.false_ne_true
  · rw [Af,D4]
    refine fin.resolve_right ?_
    rw [z,Bool.and_false]
    exact Bool.false_ne_true
end
section
variable {T:Tab} {Φ:Funs} {Γ:Env'} {H:Hp} {Q:Val -> Hp -> Prop} {E:Nat -> Hp -> Prop} {d:Nat} {QS:Env' -> Hp -> Prop} {R:Val -> Hp -> Prop} {ES:Nat -> Env' -> Hp -> Prop}
theorem Wx:wpE T Φ (.neg (.int 1)) Γ H Q E=Q (.int (-1)) H:=rfl
theorem Aez {w:Str} (h:w.length=0):Ci w=false:=by
  unfold Ci
  rw [Array.getElem?_eq_none (show w.cps.size <= w.length - 1 by show w.length <= _;exact Aqp h)]
  rfl
theorem On {w:Str} {i:Nat} (hi:Γ[i]?=some (some (.str w))) (hw:Ok w):wpE T Φ (.cmp .eq (.slice (.var i) (.some (.neg (.int 1))) .none) (.str "*")) Γ H Q E=Q (.bool (Ci w)) H:=by
  rw [Bg,Gv,An,Bl hi,A2,Wx,Im,Ws w _ _ rfl rfl,H6,Ro (Rl hw _ _) Wu]
  by_cases h:w.length=0
  · rw [Wq w h,Aez h]
    have:(w == ("*":Str))=false:=by
      refine eq_false_of_ne_true fun e=>?_
      rw [beq_iff_eq.mp e] at h
      exact absurd h (by decide +kernel)
    rw [this]
  · refine ex1 (Tc w (by exact Akm h)) fun c zz=>Ac zz fun e1 e2=>?_
    rw [e2,Wv _ 42 _ (by decide +kernel),<- e1]
    rfl
theorem Ae0 {w:Str} {i:Nat} (hi:Γ[i]?=some (some (.str w))):wpE T Φ (.slice (.var i) .none (.some (.neg (.int 1)))) Γ H Q E=Q (.str (Txt.slice w none (some (-1)))) H:=by
  rw [Gv,An,Bl hi,Im,A2,Wx,Ws w _ _ rfl rfl]
theorem cut_le (w:Str):(O9 w).length <= w.length:=by
  unfold O9;split
  · exact Txt.slice_le w _ _
  · exact Nat.le_refl _
end
section
variable {H:Hp} {d:Nat}
end
noncomputable def Bz (t:Str):List Str:=Txt.split t ("\n":Str)
noncomputable def Bs (ln:Str):List Str:=Txt.split ln (" ":Str)
noncomputable def W13 (t:Str):List (List Str):=(Bz t).map Bs
noncomputable def D9 (t:Str):List (List Val):=(W13 t).map fun ws=>ws.map Mx
noncomputable def Wy (ws:List Str) (j:Nat):Bool:=match ws[j]? with
  | some w=>drW w
  | none=>false
theorem My {ws:List Str} {j:Nat} {w:Str} (h:ws[j]?=some w):Wy ws j=drW w:=by unfold Wy;rw [h]
noncomputable def Oo (i:Nat) (ws:List Str) (j:Nat):List Val:=((List.range j).filter (Wy ws)).map fun (j:Nat)=>.tup [.int (i:Int),.int (j:Int)]
noncomputable def Ajf (i j:Nat):Val:=.tup [.int (i:Int),.int (j:Int)]
theorem Aaa {i j:Nat} {ws:List Str} (h:Wy ws j=true):Oo i ws (j+1)=Oo i ws j++[Ajf i j]:=by
  unfold Oo
  rw [List.range_succ,List.filter_append,List.map_append,List.filter_cons_of_pos h];rfl
theorem Ae1 {i j:Nat} {ws:List Str} (h:Wy ws j=false):Oo i ws (j+1)=Oo i ws j:=by
  unfold Oo
  rw [List.range_succ,List.filter_append,List.map_append,List.filter_cons_of_neg (by rw [h];exact Bool.false_ne_true)]
  exact List.append_nil _
theorem Rq (i:Nat) (ws:List Str) (j:Nat):(Oo i ws j).length <= j:=by
  unfold Oo
  rw [List.length_map]
  refine Nat.le_trans (List.length_filter_le _ _) ?_
  rw [List.length_range];exact Nat.le_refl _
noncomputable def Rr (W:List (List Str)) (k:Nat):List Val:=(List.range k).flatMap fun i=>Oo i (W.getD i []) (W.getD i []).length
theorem Op {W:List (List Str)} {k:Nat} {ws:List Str} (h:W[k]?=some ws):Rr W (k+1)=Rr W k++Oo k ws ws.length:=by
  unfold Rr
  rw [List.range_succ,List.flatMap_append]
  congr 1
  show Oo k (W.getD k []) (W.getD k []).length++[]=_
  rw [List.append_nil,List.getD_eq_getElem?_getD,h];rfl
theorem Aab {W:List (List Str)} {B:Nat} (h:∀ ws∈W,ws.length <= B) (k:Nat) (hk:k <= W.length):(Rr W k).length <= k * B:=by
  induction k with
  | zero=>exact Nat.zero_le _
  | succ k ih =>
    have lt:k < W.length:=hk
    rw [Op (List.getElem?_eq_getElem lt),List.length_append,Nat.succ_mul]
    have h1:=Rq k W[k] W[k].length
    have h2:=h _ (List.getElem_mem lt)
    have h3:=ih (by exact Aqq hk lt)
    exact Aqr lt h1 h2 h3
structure Txt13 (t:Str):Prop where
  ok:Ok t
  len:t.length <= 3300
theorem Txt13.line {t:Str} (h:Txt13 t) {ln:Str} (hl:ln∈Bz t):Txt13 ln:=⟨Wl h.ok hl,Nat.le_trans (Rk hl) h.len⟩
theorem Txt13.word {t:Str} (h:Txt13 t) {w:Str} (hl:w∈Bs t):Txt13 w:=⟨Wl h.ok hl,Nat.le_trans (Rk hl) h.len⟩
theorem G7 {t:Str} (h:Txt13 t):1 <= (Bz t).length /\ (Bz t).length <= 3302:=by
  have h1:=J5 t ("\n":Str)
  have h2:=h.len
  exact ⟨h1.1,Nat.le_trans h1.2 (by exact Akn h2)⟩
theorem Oq {t:Str} (h:Txt13 t):1 <= (Bs t).length /\ (Bs t).length <= 3302:=by
  have h1:=J5 t (" ":Str)
  have h2:=h.len
  exact ⟨h1.1,Nat.le_trans h1.2 (by exact Akn h2)⟩
theorem Ae2 {t:Str} {ws:List Str} (h:ws∈W13 t):∃ ln∈Bz t,Bs ln=ws:=List.mem_map.mp h
theorem Wz {t:Str} (h:Txt13 t) {ws:List Str} (hw:ws∈W13 t):1 <= ws.length /\ ws.length <= 3302:=by
  refine ex1 (Ae2 hw) fun ln zz=>Ac zz fun hl zr2=>?_;subst zr2
  exact Oq (h.line hl)
theorem W0 {t:Str} {i:Nat} {ln:Str} (h:(Bz t)[i]?=some ln):(W13 t)[i]?=some (Bs ln):=by
  unfold W13;rw [List.getElem?_map,h];rfl
theorem W1 {t:Str} (h:Txt13 t) {i:Nat} (hi:i <= (W13 t).length):(Rr (W13 t) i).length <= 3302 * 3302:=by
  refine Nat.le_trans (Aab (B:=3302) (fun ws hw=>(Wz h hw).2) i hi) (Nat.mul_le_mul_right _ ?_)
  have:(W13 t).length=(Bz t).length:=List.length_map ..
  have:=(G7 h).2
  omega
structure RI (o:Nat) (H K:Hp) (t:Str) (i:Nat) (D:List Val):Prop where
  ext:Ext H K
  top:K[H.length]?=some (.list ((List.range i).map fun j=>.loc (H.length+3+o+2 * j)))
  dr:K[H.length+1]?=some (.list D)
  ln:K[H.length+2]?=some (.list ((Bz t).map .str))
  row:∀ (j:Nat) (ws:List Str),j < i -> (W13 t)[j]?=some ws -> K[H.length+3+o+2 * j]?=some (.list (ws.map Mx))
theorem RI.ext' {o:Nat} {H K K':Hp} {t:Str} {i:Nat} {D:List Val} (x:RI o H K t i D) (e:Ext K K'):RI o H K' t i D :=
  ⟨x.ext.trans e,e.get x.top,e.get x.dr,e.get x.ln,fun j ws hj hw=>e.get (x.row j ws hj hw)⟩
theorem RI.set {o:Nat} {H K:Hp} {t:Str} {i:Nat} {D:List Val} (x:RI o H K t i D) {m:Nat} (hm:H.length+3+o+2 * i <= m) (ob:HObj):RI o H (K.set m ob) t i D :=
  ⟨x.ext.set (by exact Aqs hm) ob,Ak ob (by exact Aqt hm) x.top,Ak ob (by exact Aqu hm) x.dr,Ak ob (by exact Aqv hm) x.ln,fun j ws hj hw=>Ak ob (by exact Aqw hm hj) (x.row j ws hj hw)⟩
theorem RI.more {o:Nat} {H K:Hp} {t:Str} {i:Nat} {D:List Val} (x:RI o H K t i D) (D':List Val):RI o H (K.set (H.length+1) (.list D')) t i D' :=
  ⟨x.ext.set (by exact Aqx) _,Ak _ (by exact Aqy) x.top,Ch _ x.dr,Ak _ (by exact Aqz) x.ln,fun j ws hj hw=>Ak _ (by exact Aq0) (x.row j ws hj hw)⟩
theorem RI.next {o:Nat} {H K:Hp} {t:Str} {i:Nat} {D:List Val} (x:RI o H K t i D) {ws:List Str} (hw:(W13 t)[i]?=some ws) (hr:K[H.length+3+o+2 * i]?=some (.list (ws.map Mx))) :
    RI o H (K.set H.length (.list ((List.range i).map (fun j=>Val.loc (H.length+3+o+2 * j))++[.loc (H.length+3+o+2 * i)]))) t (i+1) D:=by
  refine ⟨x.ext.set (Nat.le_refl _) _,?_,Ak _ (by exact Aq1) x.dr,Ak _ (by exact Aq2) x.ln,fun j vs hj hv=>Ak _ (by exact Aq3) ?_⟩
  · rw [Ch _ x.top,List.range_succ,List.map_append];rfl
  · by_cases c:j < i
    · exact x.row j vs c hv
    · have:j=i:=by exact o1 hj c
      subst this
      rw [hw] at hv
      cases hv
      exact hr
theorem RI.grid {o:Nat} {H K:Hp} {t:Str} {D:List Val} (x:RI o H K t (W13 t).length D):GAt K H.length (H.length+3+o) 2 (D9 t):=by
  have e:(D9 t).length=(W13 t).length:=List.length_map ..
  refine ⟨by rw [e];exact x.top,fun i r h=>?_⟩
  unfold D9 at h
  rw [List.getElem?_map] at h
  refine ex1 (Option.map_eq_some_iff.mp h) fun ws zz=>Ac zz fun hw zr2=>?_;subst zr2
  exact x.row i ws (List.getElem?_eq_some_iff.mp hw).1 hw
section
variable {T:Tab} {Φ:Funs} {Γ:Env'} {H K0:Hp} {Q:Val -> Hp -> Prop} {E:Nat -> Hp -> Prop} {d:Nat} {QS:Env' -> Hp -> Prop} {R:Val -> Hp -> Prop} {ES:Nat -> Env' -> Hp -> Prop}
theorem Os:∀ (xs:List Val) (n:Nat),(B4 n xs).length=xs.length /\ ∀ (k:Nat) z,(B4 n xs)[k]?=some z -> ∃ x,xs[k]?=some x /\ z=.tup [.int ((n+k:Nat):Int),x]
  | [],n=>⟨rfl,fun k z h=>by cases h⟩
  | x :: xs,n=>by
    obtain ⟨h1,h2⟩:=Os xs (n+1)
    refine ⟨congrArg (·+1) h1,fun k z h=>?_⟩
    cases k with
    | zero=>cases h;exact ⟨x,rfl,rfl⟩
    | succ k =>
      refine ex1 (h2 k z h) fun y zz=>Ac zz fun e1 e2=>?_
      exact ⟨y,e1,by rw [e2,show n+1+k=n+(k+1) by exact Aj1]⟩
theorem Ot {i j l:Nat} {it:ME} {body:MSs} {xs:List Val} (I:Nat -> Env' -> Hp -> Prop) (hit:wpE T Φ it Γ H (fun v H'=>v=.loc l /\ H'=K0) NoE) (h0:I 0 Γ K0) (hx:∀ k Γ K,I k Γ K -> K[l]?=some (.list xs))
    (hs:∀ (k:Nat) x Γ K,xs[k]?=some x -> I k Γ K -> wpSs T Φ body ((Γ.set i (some (.int (k:Int)))).set j (some x)) K (I (k+1)) R NoX) (hd:∀ Γ K,I xs.length Γ K -> QS Γ K):wpS T Φ (.eachEnum i j it body) Γ H QS R ES:=by
  refine N9 (Ao hit ?_)
  rintro v H' ⟨rfl,rfl⟩
  rw [Cw (P7 (hx 0 Γ H' h0))]
  obtain ⟨c1,c2⟩:=Os xs 0
  refine Fb I h0 ?_ (fun k Γ K _ h=>Ek (hx k Γ K h)) ?_
  · intro Γ K h;rw [show (B4 0 xs).length=xs.length from c1] at h;exact hd Γ K h
  · intro k z Γ K hz h
    refine ex1 (c2 k z hz) fun x zz=>Ac zz fun h1 zr2=>?_;subst zr2
    refine ⟨_,rfl,?_⟩
    rw [Nat.zero_add]
    exact hs k x Γ K h1 h
theorem Ou {i:Nat} {x y:Str} (hi:Γ[i]?=some (some (.str x))) (hy:(y.length == 0)=false) (hx:x.length <= 3300):wpE T Φ (.bm (.var i) .split (.cons (.str y) .nil)) Γ H Q E=Q (.loc H.length) (H++[.list ((Txt.split x y).map .str)]):=by
  rw [N6,An,Bl hi,Cw (show Ez .split (.str x) H=some () from rfl),Am,H6,Au,Z7 hy (by show x.length+2 <= 16777216;exact Aq4 hx)]
theorem W2 {xs:List Str} {k:Nat} {v:Val} (h:(xs.map Val.str)[k]?=some v):∃ w,xs[k]?=some w /\ v=.str w:=by
  rw [List.getElem?_map] at h
  refine ex1 (Option.map_eq_some_iff.mp h) fun w zz=>Ac zz fun e zr2=>?_;subst zr2
  exact ⟨w,e,rfl⟩
theorem Ahn:((("\n":Str).length) == 0)=false:=by decide +kernel
theorem Aho:(((" ":Str).length) == 0)=false:=by decide +kernel
end
noncomputable def Rs (W:List (List Str)) (ws:List Str):Bool:=(ws.any fun w=>(H8 w).isNone) || (!decide (ws.length=(W.headD []).length) || (decide (30 < ws.length) || decide (30 < W.length)))
noncomputable def J6 (t:Str):Prop:=∀ ws∈W13 t,Rs (W13 t) ws=false
section
variable {H:Hp} {d:Nat} {QS:Env' -> Hp -> Prop} {R:Val -> Hp -> Prop}
end
section
variable {H:Hp} {d:Nat} {QS:Env' -> Hp -> Prop} {R:Val -> Hp -> Prop}
theorem Ov {W:List (List Str)} {w0:List Str} (h:W[0]?=some w0):W.headD []=w0:=by
  cases W with
  | nil=>exact nomatch h
  | cons x xs=>exact Option.some.inj h
end
section
variable {H:Hp} {d:Nat} {QS:Env' -> Hp -> Prop} {R:Val -> Hp -> Prop} {l b s:Nat} {g:List (List Val)}
end
theorem J7 {t:Str} (g:J6 t) {ws:List Str} {w:Str} (h1:ws∈W13 t) (h2:w∈ws):∃ v,H8 w=some v:=by
  cases h:H8 w with
  | none =>
    have:=g ws h1
    unfold Rs at this
    rw [List.any_eq_true.mpr ⟨w,h2,by rw [h];rfl⟩] at this
    exact nomatch this
  | some v=>exact ⟨v,rfl⟩
theorem Ea {t:Str} (g:J6 t) {ws:List Str} (h1:ws∈W13 t):ws.length=((W13 t).headD []).length /\ ws.length <= 30 /\ (W13 t).length <= 30:=by
  have:=g ws h1
  unfold Rs at this
  rw [Bool.or_eq_false_iff,Bool.or_eq_false_iff,Bool.or_eq_false_iff] at this
  refine By this fun _ h2 h3 h4=>?_
  have h3:=of_decide_eq_false h3
  have h4:=of_decide_eq_false h4
  rw [Bool.not_eq_false'] at h2
  have h2:=of_decide_eq_true h2
  exact ⟨h2,by exact Aq5 h2 h3,by exact Aq6 h4⟩
theorem Ae3 {t:Str} (h1:∀ ws∈W13 t,∀ w∈ws,(H8 w).isSome=true) (h2:(W13 t).length <= 30) (h3:∀ ws∈W13 t,ws.length <= 30 /\ ws.length=((W13 t).headD []).length):J6 t:=fun ws hw=>by
  unfold Rs
  have a:(ws.any fun w=>(H8 w).isNone)=false:=by
    rw [List.any_eq_false]
    intro w hw'
    have:=h1 ws hw w hw'
    cases h:H8 w with
    | none=>rw [h] at this;exact nomatch this
    | some v=>exact Bool.false_ne_true
  rw [a,decide_eq_true (h3 ws hw).2,decide_eq_false (show ¬ 30 < ws.length by have:=(h3 ws hw).1;exact Ako this),decide_eq_false (show ¬ 30 < (W13 t).length by exact Ako h2)]
  rfl
noncomputable def R13 (t:Str):Nat:=(W13 t).length
noncomputable def C13 (t:Str):Nat:=((W13 t).headD []).length
theorem Td {t:Str} (ht:Txt13 t) (g:J6 t):OkS (R13 t) (C13 t):=by
  have wl:(W13 t).length=(Bz t).length:=List.length_map ..
  have ll:=G7 ht
  have lt0:0 < (W13 t).length:=by exact Aq7 ll wl
  have m0:=List.getElem_mem lt0
  have h0:(W13 t)[0]?=some (W13 t)[0]:=List.getElem?_eq_getElem lt0
  have s:=Ea g m0
  have w:=Wz ht m0
  have e:((W13 t).headD []).length=(W13 t)[0].length:=by rw [Ov h0]
  unfold OkS R13 C13
  exact Aq8 ll w s lt0 wl
theorem W3 {t:Str} (g:J6 t):OkG (D9 t) (R13 t) (C13 t):=by
  refine ⟨List.length_map ..,fun i w hw=>?_⟩
  unfold D9 at hw
  rw [List.getElem?_map] at hw
  refine ex1 (Option.map_eq_some_iff.mp hw) fun ws zz=>Ac zz fun e zr2=>?_;subst zr2
  have m:=List.mem_of_getElem? e
  refine ⟨by rw [List.length_map];exact (Ea g m).1,fun v hv=>?_⟩
  refine ex1 (List.mem_map.mp hv) fun w zz=>Ac zz fun hw zr2=>?_;subst zr2
  obtain ⟨v,hv⟩:=J7 g m hw
  unfold Mx
  rw [hv]
  exact Ahk hv
noncomputable def Ajg (t:Str) (k:Key):Bool:=Wy ((W13 t).getD k.1.toNat []) k.2.toNat
noncomputable def J8 (t:Str):List Key:=(keys (R13 t) (C13 t)).filter (Ajg t)
theorem W4 {t:Str} (g:J6 t):(J8 t).map Ad=Rr (W13 t) (W13 t).length:=by
  unfold J8 Rr keys
  rw [List.filter_flatMap,List.map_flatMap]
  show List.flatMap _ (List.range (W13 t).length)=List.flatMap _ (List.range (W13 t).length)
  have go:∀ i∈List.range (W13 t).length,List.map Ad (List.filter (Ajg t) (List.map (fun (j:Nat)=>((i:Int),(j:Int))) (List.range (C13 t))))=Oo i ((W13 t).getD i []) ((W13 t).getD i []).length:=by
    intro i hi
    have lt:=List.mem_range.mp hi
    have e:(W13 t)[i]?=some (W13 t)[i]:=List.getElem?_eq_getElem lt
    have eD:(W13 t).getD i []=(W13 t)[i]:=by rw [List.getD_eq_getElem?_getD,e];rfl
    have sh:=(Ea g (List.getElem_mem lt)).1
    rw [List.filter_map,List.map_map,eD]
    unfold Oo
    rw [show C13 t=(W13 t)[i].length from sh.symm]
    have pe:(Ajg t ∘ fun (j:Nat)=>((i:Int),(j:Int)))=Wy (W13 t)[i]:=by
      funext j
      show Wy ((W13 t).getD ((i:Int)).toNat []) ((j:Int)).toNat=_
      rw [Int.toNat_natCast,Int.toNat_natCast,eD]
    rw [pe]
    rfl
  rw [List.flatMap_def,List.flatMap_def]
  exact congrArg List.flatten (List.map_congr_left go)
section
variable {H:Hp} {d:Nat} {QS:Env' -> Hp -> Prop} {R:Val -> Hp -> Prop} {ES:Nat -> Env' -> Hp -> Prop}
theorem Qf {K:Hp} {t ln:Str} {i:Nat} {x0 x7 x8 x9 x10:Option Val} (ht:Txt13 t) (hi:(Bz t)[i]?=some ln) (good:J6 t)
    (I0:RI 0 H K t i (Rr (W13 t) i)) (hK:K.length=H.length+4+2 * i) (hc:K[H.length+3+2 * i]?=some (.list []))
    (q:∀ K' a b,RI 0 H K' t i (Rr (W13 t) (i+1)) -> K'.length=H.length+5+2 * i -> K'[H.length+3+2 * i]?=some (.list ((Bs ln).map Mx)) -> (∀ w∈Bs ln,(H8 w).isSome=true) -> QS [x0,some (.loc H.length),some (.loc (H.length+1)),some (.loc (H.length+2)),some (.int (i:Int)),some (.str ln),some (.loc (H.length+3+2 * i)),a,b,x9,x10] K') :
    wpS T_12 (Ag T_12 (d+1)) (.eachEnum 7 8 (.bm (.var 5) .split (.cons (.str " ") .nil)) (.cons (.ite (.cmp .eq (.var 8) (.str "#")) (.cons (.expr (.bm (.var 6) .append (.cons .none .nil))) .nil) (.cons (.ite (.cmp .eq (.slice (.var 8) (.some (.neg (.int 1))) .none) (.str "*")) (.cons (.expr (.bm (.var 6) .append (.cons (.call 5 (.cons (.slice (.var 8) .none (.some (.neg (.int 1)))) .nil)) .nil))) (.cons (.expr (.bm (.var 2) .append (.cons (.tup (.cons (.var 4) (.cons (.var 7) .nil))) .nil))) .nil)) (.cons (.expr (.bm (.var 6) .append (.cons (.call 5 (.cons (.var 8) .nil)) .nil))) .nil)) .nil)) .nil))
      [x0,some (.loc H.length),some (.loc (H.length+1)),some (.loc (H.length+2)),some (.int (i:Int)),some (.str ln),some (.loc (H.length+3+2 * i)),x7,x8,x9,x10] K QS R NoX:=by
  have mem:ln∈Bz t:=List.mem_of_getElem? hi
  have hln:=ht.line mem
  have wl2:=Oq hln
  have hW:=W0 hi
  have mW:=List.mem_of_getElem? hW
  have iw:i < (W13 t).length:=(List.getElem?_eq_some_iff.mp hW).1
  have sm:=W1 ht (show i <= (W13 t).length by exact Aq9 iw)
  obtain ⟨I,hI⟩:=Hm (fun (k:Nat) (Γ:Env') (K':Hp)=>RI 0 H K' t i (Rr (W13 t) i++Oo i (Bs ln) k) /\ K'.length=H.length+5+2 * i /\ K'[H.length+4+2 * i]?=some (.list ((Bs ln).map .str)) /\ K'[H.length+3+2 * i]?=some (.list (((Bs ln).take k).map Mx)) /\ (∀ w∈(Bs ln).take k,(H8 w).isSome=true) /\ ∃ a b,Γ=[x0,some (.loc H.length),some (.loc (H.length+1)),some (.loc (H.length+2)),some (.int (i:Int)),some (.str ln),some (.loc (H.length+3+2 * i)),a,b,x9,x10])
  refine Ot (l:=H.length+4+2 * i) (K0:=K++[.list ((Bs ln).map .str)]) I ?_ ((hI _ _ _).mpr ⟨?_,?_,?_,Ext.get ⟨_,rfl⟩ hc,(fun w h=>nomatch h),_,_,rfl⟩) (fun k Γ K h=>((hI _ _ _).mp h).2.2.1) ?_ ?_
  · rw [Ou (x:=ln) rfl Aho hln.len,hK];exact ⟨rfl,rfl⟩
  · rw [show Oo i (Bs ln) 0=[] from rfl,List.append_nil];exact I0.ext' ⟨_,rfl⟩
  · rw [List.length_append,hK];show _+1=_;exact Ara
  · rw [<- hK];exact Ax _ _
  · clear q
    intro k x Γ K1 hx h
    refine Kp ((hI _ _ _).mp h) fun R1 l1 w1 c1 g1 zz=>ex2 zz fun a b zr7=>?_;subst zr7
    refine ex1 (W2 hx) fun w zz=>Ac zz fun hw zr2=>?_;subst zr2
    have mw:=List.mem_of_getElem? hw
    have hwt:=hln.word mw
    have kl:=(List.getElem?_eq_some_iff.mp hw).1
    have tk:((Bs ln).take k).length < lid:=by rw [List.length_take];show _ < 16777216;exact Arb wl2 kl
    show wpSs T_12 _ _ [x0,some (.loc H.length),some (.loc (H.length+1)),some (.loc (H.length+2)),some (.int (i:Int)),some (.str ln),some (.loc (H.length+3+2 * i)),some (.int (k:Int)),some (.str w),x9,x10] K1 _ _ _
    -- one value more
    have R2:∀ v,RI 0 H (K1.set (H.length+3+2 * i) (.list (((Bs ln).take k).map Mx++[v]))) t i (Rr (W13 t) i++Oo i (Bs ln) k):=fun v=>R1.set (by exact Arc) _
    have tl:(((Bs ln).take k).map Mx).length < lid:=by rw [List.length_map];exact tk
    have nx:∀ v K2,H8 w=some v -> RI 0 H K2 t i (Rr (W13 t) i++Oo i (Bs ln) (k+1)) -> K2.length=H.length+5+2 * i -> K2[H.length+4+2 * i]?=some (.list ((Bs ln).map .str)) -> K2[H.length+3+2 * i]?=some (.list (((Bs ln).take k).map Mx++[v])) -> I (k+1) [x0,some (.loc H.length),some (.loc (H.length+1)),some (.loc (H.length+2)),some (.int (i:Int)),some (.str ln),some (.loc (H.length+3+2 * i)),some (.int (k:Int)),some (.str w),x9,x10] K2:=by
      intro v K2 hv R3 l3 w3 c3
      have vl:Mx w=v:=by unfold Mx;rw [hv];rfl
      refine (hI _ _ _).mpr ⟨R3,l3,w3,?_,fun w' hw'=>?_,_,_,rfl⟩
      · rw [c3,Gx hw,List.map_append,<- vl];rfl
      · rcases (Dc hw).mp hw' with h | h
        · exact g1 w' h
        · rw [h,hv];rfl
    have one:∀ v,H8 w=some v -> drW w=false -> I (k+1) [x0,some (.loc H.length),some (.loc (H.length+1)),some (.loc (H.length+2)),some (.int (i:Int)),some (.str ln),some (.loc (H.length+3+2 * i)),some (.int (k:Int)),some (.str w),x9,x10] (K1.set (H.length+3+2 * i) (.list (((Bs ln).take k).map Mx++[v]))):=by
      intro v hv hd
      refine nx v _ hv ?_ ?_ (Ak _ (by exact Akp) w1) (Ch _ c1)
      · rw [Ae1 ((My hw).trans hd)];exact R2 v
      · rw [List.length_set];exact l1
    rw [Ae,Bv,Bg,An,Bl rfl,H6,Ro hwt.ok Rp,Af]
    refine Dh (fun z=>?_) fun z=>?_
    · have hv:H8 w=some .none:=by unfold H8;rw [z];rfl
      rw [Ae,Ca]
      refine Bk rfl c1 ?_
      rw [F9]
      exact ⟨_,c1,tl,one .none hv (by rw [G5 hv,z];rfl)⟩
    have ev:H8 w=(hOf (O9 w)).map .int:=by unfold H8;rw [z];rfl
    obtain ⟨n,hn⟩:∃ n,hOf (O9 w)=some n:=by
      obtain ⟨v,hv⟩:=J7 good mW mw
      rw [ev] at hv
      refine ex1 (Option.map_eq_some_iff.mp hv) fun n zz=>Ac zz fun hn _=>?_
      exact ⟨n,hn⟩
    have hv:H8 w=some (.int n):=by rw [ev,hn];rfl
    rw [Ae,Bv,On rfl hwt.ok,Af]
    refine Dh (fun s=>?_) fun s=>?_
    · have cw:O9 w=Txt.slice w none (some (-1)):=by unfold O9;rw [s];rfl
      rw [Ae,Ca]
      refine Bk rfl c1 ?_
      rw [A9,Am,Ae0 rfl,Au,<- cw]
      refine (Ww (Abv hwt.ok) hn).then ?_
      · rintro v K2 ⟨rfl,rfl⟩
        have hd:drW w=true:=by rw [G5 hv,z,s];rfl
        refine ⟨_,c1,tl,?_⟩
        rw [Ae,Ca]
        refine Bk rfl (R2 (.int n)).dr ?_
        rw [Jq,Am,An,Bl rfl,Am,An,Bl rfl,Au]
        refine ⟨_,(R2 (.int n)).dr,?_,?_⟩
        · rw [List.length_append]
          have:=Rq i (Bs ln) k
          show _ < 16777216
          exact Ard wl2 kl sm this
        · refine nx (.int n) _ hv ?_ ?_ (Ak _ (by exact Are) (Ak _ (by exact Akp) w1)) (Ak _ (by exact Arf) (Ch _ c1))
          · rw [Aaa ((My hw).trans hd),<- List.append_assoc]
            exact (R2 (.int n)).more _
          · rw [List.length_set,List.length_set];exact l1
    · have cw:O9 w=w:=by unfold O9;rw [s];rfl
      rw [Ae,Ca]
      refine Bk rfl c1 ?_
      rw [A9,Am,An,Bl (v:=.str w) rfl,Au,<- cw]
      refine (Ww (Abv hwt.ok) hn).then ?_
      · rintro v K2 ⟨rfl,rfl⟩
        have hd:drW w=false:=by rw [G5 hv,s,Bool.and_false]
        rw [cw]
        exact ⟨_,c1,tl,one (.int n) hv hd⟩
  · intro Γ K1 h
    refine Kp ((hI _ _ _).mp h) fun R1 l1 w1 c1 g1 zz=>ex2 zz fun a b zr7=>?_;subst zr7
    rw [List.length_map] at R1 c1 g1
    rw [List.take_length] at c1 g1
    refine q K1 a b ?_ l1 c1 g1
    rw [Op hW];exact R1
end
section
variable {H:Hp} {d:Nat} {QS:Env' -> Hp -> Prop} {R:Val -> Hp -> Prop} {ES:Nat -> Env' -> Hp -> Prop}
theorem Ow {t:Str} {x0 x4 x5 x6 x7 x8 x9 x10:Option Val} {K:Hp} (ht:Txt13 t) (good:J6 t) (I0:RI 0 H K t 0 []) (hK:K.length=H.length+3)
    (q:∀ K' a b c e f,RI 0 H K' t (W13 t).length (Rr (W13 t) (W13 t).length) -> (∀ ws∈W13 t,∀ w∈ws,(H8 w).isSome=true) -> QS [x0,some (.loc H.length),some (.loc (H.length+1)),some (.loc (H.length+2)),a,b,c,e,f,x9,x10] K') :
    wpS T_12 (Ag T_12 (d+1)) (.eachEnum 4 5 (.var 3) zT0)
      [x0,some (.loc H.length),some (.loc (H.length+1)),some (.loc (H.length+2)),x4,x5,x6,x7,x8,x9,x10] K QS R NoX:=by
  have wl:(W13 t).length=(Bz t).length:=List.length_map ..
  have ll:=G7 ht
  obtain ⟨I,hI⟩:=Hm (fun (k:Nat) (Γ:Env') (K':Hp)=>RI 0 H K' t k (Rr (W13 t) k) /\ K'.length=H.length+3+2 * k /\ (∀ ws∈(W13 t).take k,∀ w∈ws,(H8 w).isSome=true) /\ ∃ a b c e f,Γ=[x0,some (.loc H.length),some (.loc (H.length+1)),some (.loc (H.length+2)),a,b,c,e,f,x9,x10])
  refine Ot (l:=H.length+2) (K0:=K) I ?_ ((hI _ _ _).mpr ⟨I0,hK,(fun w h=>nomatch h),_,_,_,_,_,rfl⟩) (fun k Γ K h=>((hI _ _ _).mp h).1.ln) ?_ ?_
  · rw [An,Bl rfl];exact ⟨rfl,rfl⟩
  · clear q
    intro k x Γ K1 hx h
    refine By ((hI _ _ _).mp h) fun R1 l1 g1 zz=>ex5 zz fun a b c e f zr8=>?_;subst zr8
    refine ex1 (W2 hx) fun ln zz=>Ac zz fun hln zr2=>?_;subst zr2
    have lt:=(List.getElem?_eq_some_iff.mp hln).1
    have hW:=W0 hln
    rw [Ae,Bt,Ej,Au,l1]
    show wpSs T_12 (Ag T_12 (d+1)) _ [x0,some (.loc H.length),some (.loc (H.length+1)),some (.loc (H.length+2)),some (.int (k:Int)),some (.str ln),some (.loc (H.length+3+2 * k)),e,f,x9,x10] (K1++[.list []]) _ _ _
    rw [Ae]
    refine Qf ht hln good (R1.ext' ⟨_,rfl⟩) ?_ ?_ fun K2 a b R2 l2 c2 g2=>?_
    · rw [List.length_append,l1];show _+1=_;exact Arg
    · rw [<- l1];exact Ax _ _
    rw [Ae,Ca]
    refine Bk rfl R2.top ?_
    rw [An,Bl rfl]
    refine ⟨_,R2.top,?_,(hI _ _ _).mpr ⟨R2.next hW c2,?_,fun ws hws=>?_,_,_,_,_,_,rfl⟩⟩
    · rw [List.length_map,List.length_range];show k < 16777216;exact Arh ll lt
    · rw [List.length_set,l2];exact Ari
    · rcases (Dc hW).mp hws with h | h
      · exact g1 ws h
      · rw [h];exact g2
  · intro Γ K1 h
    refine By ((hI _ _ _).mp h) fun R1 l1 g1 zz=>ex5 zz fun a b c e f zr8=>?_;subst zr8
    rw [List.length_map,<- wl] at R1 g1
    rw [List.take_length] at g1
    exact q K1 a b c e f R1 g1
theorem Qg {K:Hp} {t:Str} {o lg b ls m:Nat} {x0 x1 x3 x4 x5 x6 x7 x8 x10:Option Val} (g:J6 t) (hm:K[m]?=some (.list ((J8 t).map Ad))) (L:LandAt K o (R13 t) (C13 t) lg b 1 ls (D9 t) []) (hs:OkS (R13 t) (C13 t)) (eH:Ext H K) (hl:H.length <= ls)
    (q:∀ K' es a,Ext H K' -> LandAt K' o (R13 t) (C13 t) lg b 1 ls (D9 t) es -> (∀ k,inD es (Ad k)=true↔k∈J8 t) -> Xr es /\ H.length <= ls /\ es.length <= 900 -> QS [x0,x1,some (.loc m),x3,x4,x5,x6,x7,x8,some (.loc o),a] K') :
    wpS T_12 (Ag T_12 (d+4)) (.each 10 (.var 2) (.cons (.expr (.umeth (.var 9) 3 (.cons (.var 10) .nil))) .nil)) [x0,x1,some (.loc m),x3,x4,x5,x6,x7,x8,some (.loc o),x10] K QS R ES:=by
  have hlid:lid=16777216:=rfl
  unfold OkS at hs
  have dl:(J8 t).length <= 900:=by
    unfold J8
    refine Nat.le_trans (List.length_filter_le _ _) ?_
    rw [Gy]
    exact Nat.mul_le_mul hs.2.1 hs.2.2.2
  obtain ⟨I,hI⟩:=Hm (fun (n:Nat) (Γ:Env') (K':Hp)=>∃ es a,Γ=[x0,x1,some (.loc m),x3,x4,x5,x6,x7,x8,some (.loc o),a] /\ Ext H K' /\ LandAt K' o (R13 t) (C13 t) lg b 1 ls (D9 t) es /\ (∀ k,inD es (Ad k)=true↔k∈(J8 t).take n) /\ es.length <= n /\ K'[m]?=some (.list ((J8 t).map Ad)) /\ Xr es)
  refine Fd I ?_ hm ((hI _ _ _).mpr ⟨[],_,rfl,eH,L,(fun k=>⟨(fun h=>nomatch h),(fun h=>nomatch h)⟩),Nat.le_refl _,hm,.nil⟩) (fun k Γ K h=>by refine ex2 ((hI _ _ _).mp h) fun es a h=>?_;exact h.2.2.2.2.2.1) ?_ ?_
  · rw [An,Bl rfl];exact ⟨rfl,rfl⟩
  · clear q
    intro n z Γ K1 hz h
    refine ex2 ((hI _ _ _).mp h) fun es a zz=>R6 zz fun zr2 eK LK hes el hm1 un=>?_;subst zr2
    refine ex1 (Qb hz) fun k zz=>Ac zz fun hk zr2=>?_;subst zr2
    have ln:=(List.getElem?_eq_some_iff.mp hk).1
    obtain ⟨mk,dk⟩:=List.mem_filter.mp (List.mem_of_getElem? hk)
    refine ex2 (J2 (Cy.mp mk)) fun i j zz=>As zz fun zr2 hi hj=>?_;subst zr2
    have hW:(W13 t)[i]?=some (W13 t)[i]:=List.getElem?_eq_getElem hi
    have mW:=List.mem_of_getElem? hW
    have sh:=(Ea g mW).1
    have jl:j < (W13 t)[i].length:=by rw [sh];exact hj
    have hw:(W13 t)[i][j]?=some (W13 t)[i][j]:=List.getElem?_eq_getElem jl
    have dk:drW (W13 t)[i][j]=true:=by
      have:Wy ((W13 t).getD ((i:Int)).toNat []) ((j:Int)).toNat=true:=dk
      rw [Int.toNat_natCast,Int.toNat_natCast,List.getD_eq_getElem?_getD,hW] at this
      exact (My hw).symm.trans this
    obtain ⟨v,hv⟩:=J7 g mW (List.mem_of_getElem? hw)
    obtain ⟨y,rfl⟩:=Z6 hv dk
    have hg:(D9 t)[i]?=some ((W13 t)[i].map Mx):=by unfold D9;rw [List.getElem?_map,hW];rfl
    have hx:((W13 t)[i].map Mx)[j]?=some (.int y):=by rw [List.getElem?_map,hw];show some (Mx _)=_;unfold Mx;rw [hv];rfl
    refine ex1 LK.inst fun fs zz=>Ac zz fun f0 _=>?_
    show wpSs T_12 _ _ [x0,x1,some (.loc m),x3,x4,x5,x6,x7,x8,some (.loc o),some (.tup [.int (i:Int),.int (j:Int)])] K1 _ _ _
    rw [Ae,Ca,Fk,An,Bl rfl,Mu f0 (show T_12.meth 5 3=some 19 from rfl),Am,An,Bl rfl,Au]
    refine (Fm (d:=d) hi hj LK hg hx (by exact Arj ln hi hlid dl el)).then ?_
    rintro v K2 ⟨_,rfl⟩
    refine (hI _ _ _).mpr ⟨_,_,rfl,eK.set hl _,LK.sink,fun k=>?_,Nat.le_trans (Rg _ _ _) (Nat.succ_le_succ el),?_,Om un _ _⟩
    · rw [J3,hes,Dc hk]
    · exact Ak _ (fun q=>by have:=LK.sinks;rw [q,hm1] at this;exact nomatch this) hm1
  · intro Γ K1 h
    refine ex2 ((hI _ _ _).mp h) fun es a zz=>R6 zz fun zr2 eK LK hes el hm1 un=>?_;subst zr2
    rw [List.length_map,List.take_length] at hes
    exact q K1 es a eK LK hes ⟨un,hl,by rw [List.length_map] at el;exact Ark dl el⟩
theorem Aac {t:Str} (ht:Txt13 t) (g:J6 t):Wp (Ag T_12 (d+5) 6 [.str t]) H (fun v K=>Ext H K /\ ∃ o lg b ls es,v=.loc o /\ LandAt K o (R13 t) (C13 t) lg b 1 ls (D9 t) es /\ (∀ k,inD es (Ad k)=true↔k∈J8 t) /\ Xr es /\ es.length <= 900 /\ H.length <= ls /\ H.length <= b /\ lg=b+R13 t) NoE:=by
  have wl:(W13 t).length=(Bz t).length:=List.length_map ..
  have ll:=G7 ht
  rw [A0 (g:=Aeh) rfl rfl]
  unfold Aeh
  show wpSs T_12 _ (.cons _ _) [some (.str t),none,none,none,none,none,none,none,none,none,none] H _ _ _
  rw [Ae,Bv,Es,Dj,An,Aj,Ag6 (.str t) .str .str rfl (by intro c h;cases h),Af,Af]
  show brB false _ _
  rw [D4,Cg,Ae,Bt,Ej,Au,Ae,Bt,Ej,Au,Ae,Bt,Ou (x:=t) rfl Ahn ht.len]
  have L2:(H++[HObj.list []]++[HObj.list []]).length=H.length+2:=by simp
  have L1:(H++[HObj.list []]).length=H.length+1:=by simp
  have e1:Ext (H++[HObj.list []]) (H++[.list []]++[.list []]++[.list ((Bz t).map .str)]):=⟨[.list [],.list ((Bz t).map .str)],by simp⟩
  have e2:Ext (H++[HObj.list []]++[HObj.list []]) (H++[.list []]++[.list []]++[.list ((Bz t).map .str)]):=⟨_,rfl⟩
  have R0:RI 0 H (H++[.list []]++[.list []]++[.list ((Bz t).map .str)]) t 0 []:=by
    refine ⟨⟨[.list [],.list [],.list ((Bz t).map .str)],by simp⟩,e1.get (Ax H _),?_,?_,fun j ws hj=>absurd hj (Nat.not_lt_zero _)⟩
    · have:=e2.get (Ax (H++[HObj.list []]) (.list []))
      rw [L1] at this
      exact this
    · have:=Ax (H++[HObj.list []]++[HObj.list []]) (.list ((Bz t).map Val.str))
      rw [L2] at this
      exact this
  rw [L1,L2]
  show wpSs T_12 (Ag T_12 (d+4)) _ [some (.str t),some (.loc H.length),some (.loc (H.length+1)),some (.loc (H.length+2)),none,none,none,none,none,none,none] (H++[.list []]++[.list []]++[.list ((Bz t).map .str)]) _ _ _
  rw [Ae,Bv,Bg,D5,Am,An,Bl rfl,Au,Bj R0.ln,wp_glob,Wa,Cs,S8,Af,List.length_map]
  by_cases c:(30:Int) < ((Bz t).length:Int)
  · rw [C5 c]
    have lt0:0 < (W13 t).length:=by exact Arl ll c wl
    have:=(Ea g (List.getElem_mem lt0)).2.2
    exact absurd this (by exact Arm ll c wl this)
  rw [Bu c,Cg,Ae]
  refine Ow (d:=d+3) ht g R0 (by simp) fun K a b c' e f R1 g1=>?_
  rw [Ae,Bt,Vv,show T_12.meth 5 0=some 16 from rfl,Cs,Am,An,Bl rfl,Au]
  have hs:=Td ht g
  refine (We (d:=d+1) hs (W3 g) R1.grid).then ?_
  intro v K2 zz
  refine As zz fun zr0 eK zz=>ex3 zz fun lg b' ls zz=>By zz fun LK h1 h2 h3=>?_;subst zr0
  show wpSs T_12 (Ag T_12 (d+4)) _ [some (.str t),some (.loc H.length),some (.loc (H.length+1)),some (.loc (H.length+2)),a,b,c',e,f,some (.loc K.length),none] K2 _ _ _
  have hm:=eK.get R1.dr
  rw [<- W4 g] at hm
  have le:=R1.ext.len
  rw [Ae]
  refine Qg (H:=H) g hm LK hs (R1.ext.trans eK) (by exact Arn h3 L1 le) fun K3 es a' e3 L3 h3' hu=>?_
  rw [Ae,Bi,A2,An,Bl rfl]
  exact ⟨e3,_,_,_,_,_,rfl,L3,h3',hu.1,hu.2.2,hu.2.1,by exact Aro h1 L1 h2 le,h2⟩
end
theorem Mz (m:Nat):(Av (m:Int)).cps.toList=(Nat.toDigits 10 m).map Char.toNat:=PySem.W.KIN.signs_num m
theorem Ahp {c:Char} {m:Nat} (h:c∈Nat.toDigits 10 m):G0 c.toNat=true:=by
  have h:=Nat.isDigit_of_mem_toDigits (by decide) (by decide) h
  unfold Char.isDigit at h
  rw [Bool.and_eq_true,decide_eq_true_iff,decide_eq_true_iff] at h
  have h1:48 <= c.val.toNat:=h.1
  have h2:c.val.toNat <= 57:=h.2
  unfold G0
  show (decide (48 <= c.val.toNat) && decide (c.val.toNat <= 57))=true
  rw [decide_eq_true h1,decide_eq_true h2];rfl
theorem Qh (m:Nat) {c:Nat} (h:c∈(Av (m:Int)).cps.toList):G0 c=true:=by
  rw [Mz] at h
  refine ex1 (List.mem_map.mp h) fun a zz=>Ac zz fun ha zr2=>?_;subst zr2
  exact Ahp ha
theorem Ae4 (m:Nat):Kg (Av (m:Int))=true:=List.all_eq_true.mpr fun _ h=>Qh m h
theorem W5 (m:Nat):figVal (Av (m:Int))=m:=by
  unfold figVal;rw [Mz];exact PySem.W.KIN.val_back m
theorem Rt (m:Nat):1 <= m -> ∃ c cs,(Nat.toDigits 10 m).map Char.toNat=c :: cs /\ 49 <= c:=by
  induction m using Nat.strongRecOn with
  | _ m ih =>
    intro h1
    by_cases h:m < 10
    · rw [Nat.toDigits_of_lt_base h]
      refine ⟨_,[],rfl,?_⟩
      have:∀ d:Nat,d < 10 -> 1 <= d -> 49 <= (Nat.digitChar d).toNat:=by decide
      exact this m h h1
    · have hm:m % 10 < 10:=Nat.mod_lt m (by decide)
      have t:Nat.toDigits 10 (m / 10)++Nat.toDigits 10 (m % 10)=Nat.toDigits 10 (10 * (m / 10)+m % 10):=Nat.toDigits_append_toDigits (by decide) (by exact Arp hm h) hm
      rw [Nat.div_add_mod] at t
      refine ex2 (ih (m / 10) (by exact Arq hm h) (by exact Arr hm h)) fun c cs zz=>Ac zz fun e hc=>?_
      rw [<- t,List.map_append,e]
      exact ⟨c,_,rfl,hc⟩
theorem W6 (m:Nat):1 <= (Av (m:Int)).cps.toList.length:=by
  by_cases h:m=0
  · rw [h];decide +kernel
  · refine ex2 (Rt m (by exact Akm h)) fun c cs zz=>Ac zz fun e _=>?_
    rw [Mz,e];exact Nat.succ_le_succ (Nat.zero_le _)
theorem W7 {m:Nat} (h:m <= 1000000000):(Av (m:Int)).length <= 10:=PySem.W.KT.len_num (Int.natCast_nonneg m) (by omega)
theorem Ae5 {m:Nat} (h:m <= 1000000000):hOf (Av (m:Int))=some (m:Int):=by
  have l1:1 <= (Av (m:Int)).length:=W6 m
  have l2:=W7 h
  have lead:(decide (1 < (Av (m:Int)).length) && ((Av (m:Int)).cps[0]? == some 48))=false:=by
    by_cases h0:m=0
    · rw [h0];decide +kernel
    · refine ex2 (Rt m (by exact Ars h h0)) fun c cs zz=>Ac zz fun e hc=>?_
      have:(Av (m:Int)).cps[0]?=some c:=by rw [<- Array.getElem?_toList,Mz,e];rfl
      rw [this,show (some c == some 48)=false from beq_eq_false_iff_ne.mpr fun q=>by cases q;exact Art hc,Bool.and_false]
  have hb:Wo (Av (m:Int))=false:=by
    unfold Wo
    rw [decide_eq_false (show ¬ (Av (m:Int)).length=0 by exact Aru l1 l2),decide_eq_false (show ¬ 10 < (Av (m:Int)).length by exact Arv l1 l2),lead,Ae4,W5,decide_eq_false (show ¬ 1000000000 < m by exact Arw h)]
    rfl
  unfold hOf
  rw [hb,W5];rfl
noncomputable def wb:Option Int -> Str
  | none=>"#"
  | some n=>Av n
noncomputable def wd (o:Option Int) (b:Bool):Str:=if b=true then wb o++"*" else wb o
theorem M0:("*":Str).cps=#[42]:=by decide +kernel
theorem Em (x y:Str):(x++y).cps.toList=x.cps.toList++y.cps.toList:=by
  show (x.cps++y.cps).toList=_
  exact Array.toList_append
theorem Qi (x y:Str):(x++y).length=x.length+y.length:=by
  show (x.cps++y.cps).size=_
  exact Array.size_append
theorem Abw {m c:Nat} (h:G0 c=false):c ∉ (Av (m:Int)).cps.toList:=fun q=>by rw [Qh m q] at h;exact nomatch h
theorem Ru (m:Nat):Ci (Av (m:Int))=false:=by
  unfold Ci
  refine beq_eq_false_iff_ne.mpr fun q=>?_
  rw [<- Array.getElem?_toList] at q
  exact Abw (m:=m) (c:=42) rfl (List.mem_of_getElem? q)
theorem Ox (x:Str):Ci (x++"*")=true:=by
  unfold Ci
  rw [Qi,show ("*":Str).length=1 by decide +kernel,Nat.add_sub_cancel,<- Array.getElem?_toList,Em,show x.length=x.cps.toList.length from rfl,List.getElem?_append_right (Nat.le_refl _),Nat.sub_self,M0];rfl
theorem Aad (x:Str):O9 (x++"*")=x:=by
  unfold O9
  rw [Ox,if_pos rfl]
  have l:(x++("*":Str)).length=x.length+1:=by rw [Qi];rfl
  have e:Txt.slice (x++"*") none (some (-1))=_:=StrLaws.sliceText_to_neg (x:=x++"*") (j:=-1) (by decide) (by rw [l];exact Arx)
  rw [e,l]
  refine Str.ext' ?_
  show ((List.drop 0 (x++("*":Str)).cps.toList).take _).toArray=x.cps
  rw [List.drop_zero,show ((-1:Int)+((x.length+1:Nat):Int) - 0).toNat=x.cps.toList.length by show _=x.length;exact Ary,Em,List.take_left']
  · rfl
theorem Ajh (o:Option Int) (b:Bool):Ok (wd o b):=by
  have h:Ok (wb o):=by cases o with
    | none=>exact Rp
    | some n=>exact Ahi n
  unfold wd
  split
  · exact Wk h Wu
  · exact h
noncomputable def HI (o:Option Int):Prop:=∀ n,o=some n -> 0 <= n /\ n <= 1000000000
theorem Rv {o:Option Int} {b:Bool} (h:HI o):(wd o b).length <= 11:=by
  have:(wb o).length <= 10:=by
    cases o with
    | none=>decide +kernel
    | some n =>
      obtain ⟨h0,h1⟩:=h n rfl
      obtain ⟨m,rfl⟩:=Int.eq_ofNat_of_zero_le h0
      exact W7 (by exact Akq h1 h0)
  unfold wd
  split
  · rw [Qi,show ("*":Str).length=1 by decide +kernel];exact Arz this
  · exact Ar0 this
theorem W8 {o:Option Int} {b:Bool} (h:HI o) {c:Nat} (h1:G0 c=false) (h2:c≠35) (h3:c≠42):c ∉ (wd o b).cps.toList:=by
  have w:c ∉ (wb o).cps.toList:=by
    cases o with
    | none =>
      show c ∉ ("#":Str).cps.toList
      rw [show ("#":Str).cps.toList=[35] by decide +kernel]
      exact fun q=>h2 (List.mem_singleton.mp q)
    | some n =>
      obtain ⟨m,rfl⟩:=Int.eq_ofNat_of_zero_le (h n rfl).1
      exact Abw h1
  unfold wd
  split
  · rw [Em,M0]
    intro q
    rcases List.mem_append.mp q with q | q
    · exact w q
    · exact h3 (List.mem_singleton.mp q)
  · exact w
noncomputable def vOf:Option Int -> Val
  | none=>.none
  | some n=>.int n
theorem W9 {o:Option Int} {b:Bool} (h:HI o) (hb:b=true -> o≠none):H8 (wd o b)=some (vOf o):=by
  cases o with
  | none =>
    have:b=false:=by cases b with
      | false=>rfl
      | true=>exact absurd rfl (hb rfl)
    rw [this];exact if_pos (by decide +kernel)
  | some n =>
    obtain ⟨h0,h1⟩:=h n rfl
    obtain ⟨m,rfl⟩:=Int.eq_ofNat_of_zero_le h0
    have hd:(wd (some (m:Int)) b == ("#":Str))=false:=by
      refine eq_false_of_ne_true fun q=>?_
      have q:wd (some (m:Int)) b=("#":Str):=beq_iff_eq.mp q
      have f:=W8 (b:=b) h (c:=35)
      have q2:(wd (some (m:Int)) b).cps.toList=[35]:=by rw [q];decide +kernel
      have hp:=W6 m
      have:∃ d,d∈(Av (m:Int)).cps.toList:=by
        cases e:(Av (m:Int)).cps.toList with
        | nil=>rw [e] at hp;exact absurd hp (by decide)
        | cons d ds=>exact ⟨d,.head _⟩
      obtain ⟨d,hd⟩:=this
      have dm:d∈(wd (some (m:Int)) b).cps.toList:=by
        unfold wd
        split
        · rw [Em];exact List.mem_append_left _ hd
        · exact hd
      rw [q2] at dm
      have:=Qh m hd
      rw [List.mem_singleton.mp dm] at this
      exact nomatch this
    have hc:O9 (wd (some (m:Int)) b)=Av (m:Int):=by
      unfold wd
      split
      · exact Aad _
      · unfold O9;rw [show Ci (wb (some (m:Int)))=false from Ru m];rfl
    unfold H8
    rw [hd,if_neg Bool.false_ne_true,hc,Ae5 (by exact Akq h1 h0)];rfl
theorem Aji {o:Option Int} {b:Bool} (h:HI o) (hb:b=true -> o≠none):drW (wd o b)=b:=by
  rw [G5 (W9 h hb)]
  cases b with
  | true =>
    have:wd o true=wb o++"*":=if_pos rfl
    rw [this,Ox,Bool.and_true]
    rw [Bool.not_eq_true',<- Bool.not_eq_true]
    intro q
    have q:wb o++"*"=("#":Str):=beq_iff_eq.mp q
    have l:(wb o++("*":Str)).cps.toList=[35]:=by rw [q];decide +kernel
    rw [Em,M0] at l
    have:(42:Nat)∈([35]:List Nat):=by rw [<- l];exact List.mem_append_right _ (.head _)
    exact absurd this (by decide)
  | false =>
    have e:wd o false=wb o:=if_neg Bool.false_ne_true
    rw [e]
    cases o with
    | none=>decide +kernel
    | some n =>
      obtain ⟨m,rfl⟩:=Int.eq_ofNat_of_zero_le (h n rfl).1
      show (_ && Ci (Av (m:Int)))=false
      rw [Ru,Bool.and_false]
theorem Abx {c:Nat}:∀ (x y A B:List Nat),c ∉ x -> c ∉ y -> x++c :: A=y++c :: B -> x=y /\ A=B
  | [],[],A,B,_,_,e=>⟨rfl,(List.cons.inj e).2⟩
  | [],y :: ys,A,B,_,hy,e=>absurd (.head _) ((List.cons.inj e).1▸hy)
  | x :: xs,[],A,B,hx,_,e=>absurd (.head _) ((List.cons.inj e).1▸hx)
  | x :: xs,y :: ys,A,B,hx,hy,e=>by
    obtain ⟨e1,e2⟩:=List.cons.inj e
    obtain ⟨h1,h2⟩:=Abx xs ys A B (fun q=>hx (.tail _ q)) (fun q=>hy (.tail _ q)) e2
    exact ⟨by rw [e1,h1],h2⟩
theorem join_list (c:Nat) (x y:Str) (r:List Str):(Str.join ⟨#[c]⟩ (x :: y :: r)).cps.toList=x.cps.toList++c :: (Str.join ⟨#[c]⟩ (y :: r)).cps.toList:=by
  show ((x++⟨#[c]⟩++Str.join ⟨#[c]⟩ (y :: r):Str)).cps.toList=_
  rw [Em,Em,List.append_assoc];rfl
theorem Xa {x y:Str} (h:x.cps.toList=y.cps.toList):x=y:=Str.ext' (Array.toList_inj.mp h)
theorem Rw {c:Nat}:∀ (xs ys:List Str),xs≠[] -> ys≠[] -> (∀ x∈xs,c ∉ x.cps.toList) -> (∀ y∈ys,c ∉ y.cps.toList) -> (Str.join ⟨#[c]⟩ xs).cps.toList=(Str.join ⟨#[c]⟩ ys).cps.toList -> xs=ys
  | [],_,h,_,_,_,_=>absurd rfl h
  | _ :: _,[],_,h,_,_,_=>absurd rfl h
  | [x],[y],_,_,_,_,e=>by rw [Xa (x:=x) (y:=y) e]
  | [x],y :: z :: r,_,_,hx,_,e=>by
    rw [join_list] at e
    exact absurd (show c∈x.cps.toList from e▸List.mem_append_right _ (.head _)) (hx x (.head _))
  | x :: z :: r,[y],_,_,_,hy,e=>by
    rw [join_list] at e
    exact absurd (show c∈y.cps.toList from e▸List.mem_append_right _ (.head _)) (hy y (.head _))
  | x :: x2 :: r,y :: y2 :: r',_,_,hx,hy,e=>by
    rw [join_list,join_list] at e
    obtain ⟨e1,e2⟩:=Abx _ _ _ _ (hx x (.head _)) (hy y (.head _)) e
    rw [Xa e1,Rw (x2 :: r) (y2 :: r') (List.cons_ne_nil _ _) (List.cons_ne_nil _ _) (fun a h=>hx a (.tail _ h)) (fun a h=>hy a (.tail _ h)) e2]
theorem Lu {c:Nat} {xs:List Str} (h0:xs≠[]) (h:∀ x∈xs,c ∉ x.cps.toList):Txt.split (Txt.join ⟨#[c]⟩ xs) ⟨#[c]⟩=xs:=by
  have e:Txt.join ⟨#[c]⟩ xs=Str.join ⟨#[c]⟩ xs:=StrLaws.glued_eq_join _ _
  refine Rw _ _ (fun q=>?_) h0 (StrLaws.split_free _ c) h (by rw [StrLaws.join_split,e])
  have:=(J5 (Txt.join ⟨#[c]⟩ xs) ⟨#[c]⟩).1
  rw [q] at this
  exact absurd this (by decide)
theorem Oy {c d:Nat} (hd:c≠d):∀ (xs:List Str),(∀ x∈xs,c ∉ x.cps.toList) -> c ∉ (Str.join ⟨#[d]⟩ xs).cps.toList
  | [],_=>fun q=>nomatch q
  | [x],h=>h x (.head _)
  | x :: y :: r,h=>by
    rw [join_list]
    intro q
    rcases List.mem_append.mp q with q | q
    · exact h x (.head _) q
    · rcases List.mem_cons.mp q with q | q
      · exact hd q
      · exact Oy hd (y :: r) (fun a ha=>h a (.tail _ ha)) q
theorem Ahq:(" ":Str)=⟨#[32]⟩:=by decide +kernel
theorem Ajj:("\n":Str)=⟨#[10]⟩:=by decide +kernel
theorem H9 {g:List (List Val)} {r c:Nat} (og:OkG g r c) (k:Key):HI (hgt g r c k):=by
  intro n h
  refine ex2 (J2 (Wg h)) fun i j zz=>As zz fun zr2 hi hj=>?_;subst zr2
  refine ex2 (Lq og hi hj) fun w x zz=>As zz fun hw hx hc=>?_
  rcases hc with ⟨_,e⟩ | ⟨m,rfl,_,e⟩
  · rw [e] at h;exact nomatch h
  · rw [e] at h
    cases h
    rcases (og.row i w hw).2 _ (List.mem_of_getElem? hx) with q | ⟨y,q,h1⟩
    · exact nomatch q
    · cases q;exact h1
noncomputable def G8 (g:List (List Val)) (r c:Nat) (p:Key -> Bool) (i n:Nat):List Str:=(List.range n).map fun (j:Nat)=>wd (hgt g r c ((i:Int),(j:Int))) (p ((i:Int),(j:Int)))
noncomputable def Ko (g:List (List Val)) (r c:Nat) (p:Key -> Bool) (i:Nat):Str:=Txt.join (" ":Str) (G8 g r c p i c)
noncomputable def B6 (g:List (List Val)) (r c:Nat) (p:Key -> Bool) (n:Nat):List Str:=(List.range n).map (Ko g r c p)
noncomputable def Br (g:List (List Val)) (r c:Nat) (p:Key -> Bool):Str:=Txt.join ("\n":Str) (B6 g r c p r)
section
variable {g:List (List Val)} {r c:Nat} {p:Key -> Bool}
theorem Dd (i n:Nat):(G8 g r c p i n).length=n:=by unfold G8;rw [List.length_map,List.length_range]
theorem Xb (i n:Nat):G8 g r c p i (n+1)=G8 g r c p i n++[wd (hgt g r c ((i:Int),(n:Int))) (p ((i:Int),(n:Int)))]:=by
  unfold G8;rw [List.range_succ,List.map_append];rfl
theorem J9 (n:Nat):B6 g r c p (n+1)=B6 g r c p n++[Ko g r c p n]:=by
  unfold B6;rw [List.range_succ,List.map_append];rfl
theorem De (n:Nat):(B6 g r c p n).length=n:=by unfold B6;rw [List.length_map,List.length_range]
theorem G9 {i n:Nat} {x:Str} (h:x∈G8 g r c p i n):∃ j:Nat,j < n /\ x=wd (hgt g r c ((i:Int),(j:Int))) (p ((i:Int),(j:Int))):=by
  unfold G8 at h
  refine ex1 (List.mem_map.mp h) fun j zz=>Ac zz fun hj e=>?_
  exact ⟨j,List.mem_range.mp hj,e.symm⟩
theorem M1 {i j n:Nat} (h:j < n):(G8 g r c p i n)[j]?=some (wd (hgt g r c ((i:Int),(j:Int))) (p ((i:Int),(j:Int)))):=by
  unfold G8;rw [List.getElem?_map,List.getElem?_range h];rfl
theorem Fn {n:Nat} {x:Str} (h:x∈B6 g r c p n):∃ i,i < n /\ x=Ko g r c p i:=by
  unfold B6 at h
  refine ex1 (List.mem_map.mp h) fun j zz=>Ac zz fun hj e=>?_
  exact ⟨j,List.mem_range.mp hj,e.symm⟩
theorem Ajk:Ok ("\n":Str):=(J4 _).mp (by decide +kernel)
theorem Ajl:Ok (" ":Str):=(J4 _).mp (by decide +kernel)
theorem Aae (i:Nat):Ok (Ko g r c p i):=Wn Ajl fun x h=>by
  refine ex1 (G9 h) fun j zz=>Ac zz fun _ e=>?_
  rw [e];exact Ajh _ _
theorem Oz (og:OkG g r c) (i:Nat):(Ko g r c p i).length <= c * 12:=by
  have h1:=Rm (" ":Str) (G8 g r c p i c)
  have h2:=Rn (G8 g r c p i c) 11 fun x h=>by
    refine ex1 (G9 h) fun j zz=>Ac zz fun _ e=>?_
    rw [e];exact Rv (H9 og _)
  rw [Dd] at h1 h2
  rw [show (" ":Str).length=1 by decide +kernel] at h1
  unfold Ko
  exact Ar1 h2 h1
theorem Rx:Ok (Br g r c p):=Wn Ajk fun x h=>by
  refine ex1 (Fn h) fun j zz=>Ac zz fun _ e=>?_
  rw [e];exact Aae _
theorem Xc (og:OkG g r c) (hS:OkS r c) (hrc:r * c <= 63):(Br g r c p).length <= 800:=by
  unfold OkS at hS
  have h1:=Rm ("\n":Str) (B6 g r c p r)
  have h2:=Rn (B6 g r c p r) (c * 12) fun x h=>by
    refine ex1 (Fn h) fun j zz=>Ac zz fun _ e=>?_
    rw [e];exact Oz og j
  rw [De] at h1 h2
  rw [show ("\n":Str).length=1 by decide +kernel] at h1
  rw [<- Nat.mul_assoc] at h2
  unfold Br
  exact Ar2 hS h2 h1 hrc
theorem Aaf (og:OkG g r c) (hS:OkS r c) (hrc:r * c <= 63):Txt13 (Br g r c p):=⟨Rx,Nat.le_trans (Xc og hS hrc) (by decide)⟩
theorem O0 {α:Type} {l:List α} (h:1 <= l.length):l≠[]:=fun e=>by rw [e] at h;exact Nat.not_succ_le_zero _ h
theorem M2 (og:OkG g r c) (hS:OkS r c):W13 (Br g r c p)=(List.range r).map fun i=>G8 g r c p i c:=by
  unfold OkS at hS
  have fr:∀ {c':Nat},G0 c'=false -> c'≠35 -> c'≠42 -> ∀ i,∀ x∈G8 g r c p i c,c' ∉ x.cps.toList:=fun a b d i x h=>by
    refine ex1 (G9 h) fun j zz=>Ac zz fun _ e=>?_
    rw [e];exact W8 (H9 og _) a b d
  have hl:Bz (Br g r c p)=B6 g r c p r:=by
    unfold Bz Br
    rw [Ajj]
    refine Lu (O0 (by rw [De];exact Akr hS)) fun x h=>?_
    refine ex1 (Fn h) fun i zz=>Ac zz fun _ e=>?_
    rw [e]
    unfold Ko
    rw [Ahq,show Txt.join ⟨#[32]⟩ (G8 g r c p i c)=Str.join ⟨#[32]⟩ (G8 g r c p i c) from StrLaws.glued_eq_join _ _]
    exact Oy (by decide) _ (fr (c':=10) (by decide) (by decide) (by decide) i)
  unfold W13
  rw [hl]
  unfold B6
  rw [List.map_map]
  refine List.map_congr_left fun i _=>?_
  show Bs (Ko g r c p i)=_
  unfold Bs Ko
  rw [Ahq]
  exact Lu (O0 (by rw [Dd];exact Ar3 hS)) (fr (c':=32) (by decide) (by decide) (by decide) i)
theorem O1 (og:OkG g r c) (hS:OkS r c) {i:Nat} (h:i < r):(W13 (Br g r c p))[i]?=some (G8 g r c p i c):=by
  rw [M2 og hS,List.getElem?_map,List.getElem?_range h];rfl
theorem O2 (og:OkG g r c) (hS:OkS r c) {ws:List Str} (h:ws∈W13 (Br g r c p)):∃ i,i < r /\ ws=G8 g r c p i c:=by
  rw [M2 og hS] at h
  refine ex1 (List.mem_map.mp h) fun i zz=>Ac zz fun hi e=>?_
  exact ⟨i,List.mem_range.mp hi,e.symm⟩
theorem M3 (og:OkG g r c) (hS:OkS r c):R13 (Br g r c p)=r:=by
  unfold R13;rw [M2 og hS,List.length_map,List.length_range]
theorem Qj (og:OkG g r c) (hS:OkS r c):C13 (Br g r c p)=c:=by
  have hS':=hS
  unfold OkS at hS'
  unfold C13
  rw [Ov (O1 og hS (i:=0) (by exact Ahx hS')),Dd]
theorem Te (og:OkG g r c) (hS:OkS r c) (hp:∀ k,p k=true -> ∃ a,hgt g r c k=some a):J6 (Br g r c p):=by
  have hS':=hS
  unfold OkS at hS'
  refine Ae3 (fun ws hw w h=>?_) (by have:=M3 (p:=p) og hS;unfold R13 at this;exact Ar4 hS' this) fun ws hw=>?_
  · refine ex1 (O2 og hS hw) fun i zz=>Ac zz fun _ e=>?_
    rw [e] at h
    refine ex1 (G9 h) fun j zz=>Ac zz fun _ e=>?_
    rw [e,W9 (H9 og _) fun q e=>by obtain ⟨a,ha⟩:=hp _ q;rw [ha] at e;exact nomatch e]
    rfl
  · refine ex1 (O2 og hS hw) fun i zz=>Ac zz fun _ e=>?_
    have:=Qj (p:=p) og hS
    unfold C13 at this
    rw [this,e,Dd]
    exact ⟨by exact Aj9 hS' this,rfl⟩
theorem Tf (og:OkG g r c) (hS:OkS r c) (hp:∀ k,p k=true -> ∃ a,hgt g r c k=some a):D9 (Br g r c p)=g:=by
  have gl:=og.len
  unfold D9
  rw [M2 og hS,List.map_map]
  refine List.ext_getElem? fun i=>?_
  by_cases hi:i < r
  · rw [List.getElem?_map,List.getElem?_range hi,List.getElem?_eq_getElem (by exact Afo hi gl)]
    show some ((G8 g r c p i c).map Mx)=some g[i]
    congr 1
    have hg:g[i]?=some g[i]:=List.getElem?_eq_getElem (by exact Afo hi gl)
    have lw:=(og.row i _ hg).1
    refine List.ext_getElem? fun j=>?_
    by_cases hj:j < c
    · rw [List.getElem?_map,M1 hj]
      refine ex2 (Lq og hi hj) fun w x zz=>As zz fun hw hx hc=>?_
      rw [hg] at hw
      cases hw
      rw [hx]
      show some (Mx _)=some x
      unfold Mx
      rw [W9 (H9 og _) fun q e=>by obtain ⟨a,ha⟩:=hp _ q;rw [ha] at e;exact nomatch e]
      rcases hc with ⟨rfl,e⟩ | ⟨n,rfl,_,e⟩
      · rw [e];rfl
      · rw [e];rfl
    · rw [List.getElem?_eq_none (by rw [List.length_map,Dd];exact Ar5 hi gl hj),List.getElem?_eq_none (by exact Ar6 hi gl lw hj)]
  · rw [List.getElem?_eq_none (by rw [List.length_map,List.length_range];exact Afi hi),List.getElem?_eq_none (by exact Aks gl hi)]
theorem Aag (og:OkG g r c) (hS:OkS r c) (hp:∀ k,p k=true -> ∃ a,hgt g r c k=some a):J8 (Br g r c p)=(keys r c).filter p:=by
  unfold J8
  rw [M3 og hS,Qj og hS]
  refine List.filter_congr fun k hk=>?_
  refine ex2 (J2 (Cy.mp hk)) fun i j zz=>As zz fun zr2 hi hj=>?_;subst zr2
  show Wy ((W13 (Br g r c p)).getD ((i:Int)).toNat []) ((j:Int)).toNat=_
  rw [Int.toNat_natCast,Int.toNat_natCast,List.getD_eq_getElem?_getD,O1 og hS hi]
  show Wy (G8 g r c p i c) j=_
  rw [My (M1 hj)]
  exact Aji (H9 og _) fun q e=>by obtain ⟨a,ha⟩:=hp _ q;rw [ha] at e;exact nomatch e
theorem Gd {q:Key -> Bool} (h:∀ k,inR r c k=true -> p k=q k):Br g r c p=Br g r c q:=by
  unfold Br
  congr 1
  unfold B6
  refine List.map_congr_left fun i hi=>?_
  unfold Ko
  congr 1
  unfold G8
  refine List.map_congr_left fun j hj=>?_
  rw [h _ (Oi (List.mem_range.mp hi) (List.mem_range.mp hj))]
end
noncomputable def Pa (k:Key):PyData:=.tuple [.int k.1,.int k.2]
theorem Ha {H:Hp} (n:Nat):∀ ks:List Key,Id (Az H (n+1)) (ks.map Ad)=some (ks.map Pa)
  | []=>rfl
  | k :: ks=>by
    show (match Az H (n+1) (Ad k),Id (Az H (n+1)) (ks.map Ad) with | some d,some ds=>some (d :: ds) | _,_=>none)=_
    have:Az H (n+1) (Ad k)=some (Pa k):=by
      show (match Az H n (.int k.1),(match Az H n (.int k.2),some [] with | some d,some ds=>some (d :: ds) | _,_=>none) with | some d,some ds=>some (d :: ds) | _,_=>none).map PyData.tuple=_
      rw [Mq,Mq];rfl
    rw [Ha n ks,this];rfl
theorem Iw (a b:Key):PyData.eqv (Pa a) (Pa b)=decide (a=b):=by
  show ((a.1 == b.1) && ((a.2 == b.2) && true))=_
  rw [Bool.and_true,Bool.eq_iff_iff,Bool.and_eq_true,beq_iff_eq,beq_iff_eq,decide_eq_true_iff]
  exact ⟨fun h=>Prod.ext h.1 h.2,fun h=>by rw [h];exact ⟨rfl,rfl⟩⟩
theorem Xd {H:Hp} {m:Nat} {ks:List Key} (h:H[m]?=some (.list (ks.map Ad))) (k:Key):C2 .isin (Ad k) (.loc m) H=some (decide (k∈ks)):=by
  have e:C2 .isin (Ad k) (.loc m) H=Kr H (Ad k) (ks.map Ad):=by
    show inV (Ad k) (.loc m) H=_
    unfold inV;simp only [h]
  rw [e]
  unfold Kr
  rw [show Id (Az H Eu) (ks.map Ad)=_ from Ha 5 ks]
  show some ((ks.map Pa).any fun y=>PyData.eqv y (Pa k))=_
  rw [List.any_map]
  congr 1
  rw [Bool.eq_iff_iff,List.any_eq_true,decide_eq_true_iff]
  constructor
  · rintro ⟨a,ha,q⟩
    have q:PyData.eqv (Pa a) (Pa k)=true:=q
    rw [Iw] at q
    exact of_decide_eq_true q▸ha
  · intro q
    exact ⟨k,q,by show PyData.eqv (Pa k) (Pa k)=true;rw [Iw];exact decide_eq_true rfl⟩
noncomputable def Tl (r c:Nat) (es:List (Key × Val)):List Key:=(keys r c).filter fun k=>inD es (Ad k)
theorem O3 (r c:Nat) (es:List (Key × Val)):(cells r c).filter (inD es)=(Tl r c es).map Ad:=by
  unfold Tl
  rw [<- Lr,List.filter_map];rfl
theorem Ae6 {r c:Nat} {es:List (Key × Val)} {k:Key} (h:inR r c k=true):decide (k∈Tl r c es)=inD es (Ad k):=by
  rw [Bool.eq_iff_iff,decide_eq_true_iff]
  unfold Tl
  rw [List.mem_filter]
  exact ⟨fun q=>q.2,fun q=>⟨Cy.mpr h,q⟩⟩
section
variable {T:Tab} {Φ:Funs} {Γ:Env'} {H K:Hp} {Q:Val -> Hp -> Prop} {E:Nat -> Hp -> Prop} {d:Nat} {QS:Env' -> Hp -> Prop} {R:Val -> Hp -> Prop} {ES:Nat -> Env' -> Hp -> Prop} {l r c m o lg b s ls i j:Nat} {g:List (List Val)} {es:List (Key × Val)}
theorem Xe {cc:ME} {t ss:MSs} {z:Bool} (h:wpE T Φ cc Γ H (fun v K=>v=.bool z /\ K=H) NoE) (h1:z=true -> wpSs T Φ t Γ H (fun Γ H=>wpSs T Φ ss Γ H QS R ES) R ES) (h2:z=false -> wpSs T Φ ss Γ H QS R ES):wpSs T Φ (.cons (.ite cc t .nil) ss) Γ H QS R ES:=by
  rw [Ae,Bv]
  refine Ao h ?_
  rintro v K ⟨rfl,rfl⟩
  exact Dh h1 h2
theorem Ry:∀ xs:List Str,I6 (xs.map .str)=some xs
  | []=>rfl
  | x :: xs=>by
    show (I6 (xs.map .str)).map (x :: ·)=_
    rw [Ry xs];rfl
theorem Ae7 {s:Str} {l:Nat} {xs:List Str} (h:H[l]?=some (.list (xs.map .str))) (z:(xs.map (·.length)).sum+xs.length * s.length <= lid):Wp (bmV .join (.str s) [.loc l]) H Q E=Q (.str (Txt.join s xs)) H:=by
  have:bmV .join (.str s) [.loc l] H=.ok (.str (Txt.join s xs)) H:=by
    show To s (.loc l) H=_
    unfold To
    rw [C4]
    have e:Ks (.loc l) H=some (xs.map .str):=by
      show (match H[l]? with | some (.list xs)=>some xs | _=>none)=_
      rw [h]
    rw [e]
    simp only [Option.bind_some,Ry,if_pos z]
  unfold Wp;rw [this]
theorem Ix {s:Str} {e:ME} (h:wpE T Φ e Γ H (fun v K=>∃ l xs,v=.loc l /\ K[l]?=some (.list (xs.map .str)) /\ (xs.map (·.length)).sum+xs.length * s.length <= lid /\ Q (.str (Txt.join s xs)) K) E):wpE T Φ (.bm (.str s) .join (.cons e .nil)) Γ H Q E:=by
  rw [N6,H6,Cw (show Ez .join (.str s) H=some () from rfl),Am]
  refine Mo h ?_ fun _ _ h=>h
  intro v K zz
  refine ex2 zz fun l xs zz=>By zz fun zr2 h1 h2 h3=>?_;subst zr2
  rw [Au,Ae7 h1 h2]
  exact h3
theorem Xf {x y:Str} (h:x.length+y.length <= lid):Hh .add (.str x) (.str y) H Q E=Q (.str (x++y)) H:=by
  have:Xl .add (.str x) (.str y)=M.ret (.str (x++y)):=if_pos h
  show Wp (Xl .add (.str x) (.str y)) H Q E=_
  rw [this];rfl
theorem Rz {i:Int} (h0:0 <= i) (h1:i <= 1000000001):small i=true:=by
  unfold small
  rw [decide_eq_true (show -(2 ^ 64) < i by omega),decide_eq_true (show i < 2 ^ 64 by omega)];rfl
theorem O4 {p:Key -> Bool} (og:OkG g r c) (hS:OkS r c) (i:Nat):((G8 g r c p i c).map (·.length)).sum+(G8 g r c p i c).length * (" ":Str).length <= lid:=by
  have hlid:lid=16777216:=rfl
  unfold OkS at hS
  have h2:=Rn (G8 g r c p i c) 11 fun x h=>by
    refine ex1 (G9 h) fun j zz=>Ac zz fun _ e=>?_
    rw [e];exact Rv (H9 og _)
  rw [Dd] at h2
  rw [Dd,show (" ":Str).length=1 by decide +kernel]
  exact Ar7 hS hlid h2
theorem O5 {p:Key -> Bool} (og:OkG g r c) (hS:OkS r c):((B6 g r c p r).map (·.length)).sum+(B6 g r c p r).length * ("\n":Str).length <= lid:=by
  have hlid:lid=16777216:=rfl
  unfold OkS at hS
  have h2:=Rn (B6 g r c p r) (c * 12) fun x h=>by
    refine ex1 (Fn h) fun j zz=>Ac zz fun _ e=>?_
    rw [e];exact Oz og j
  rw [De] at h2
  rw [De,show ("\n":Str).length=1 by decide +kernel]
  have:=Nat.mul_le_mul (show r <= 30 by exact Aif hS) (show c * 12 <= 360 by exact Ar8 hS)
  exact Ar9 hS hlid this h2
theorem Ae8 {pl B:Nat} {x6 x7:Option Val} (og:OkG g r c) (hS:OkS r c) (hi:i < r) (hj:j < c) (L:LandAt K o r c lg b s ls g es) (hm:K[m]?=some (.list ((Tl r c es).map Ad))) (hp:K[pl]?=some (.list ((G8 g r c (fun k=>inD es (Ad k)) i j).map .str)))
    (q:∀ a b,QS [some (.loc o),some (.loc m),some (.loc B),some (.int (i:Int)),some (.loc pl),some (.int (j:Int)),a,b] (K.set pl (.list ((G8 g r c (fun k=>inD es (Ad k)) i (j+1)).map .str)))) :
    wpSs T_12 (Ag T_12 (d+4)) (.cons (.assign 6 (.umeth (.var 0) 2 (.cons (.tup (.cons (.var 3) (.cons (.var 5) .nil))) .nil))) (.cons (.assign 7 (.str "#")) (.cons (.ite (.cmp .isNot (.var 6) .none) (.cons (.assign 7 (.bf .str (.cons (.var 6) .nil))) .nil) .nil) zT6)))
      [some (.loc o),some (.loc m),some (.loc B),some (.int (i:Int)),some (.loc pl),some (.int (j:Int)),x6,x7] K QS R ES:=by
  have hlid:lid=16777216:=rfl
  have hS':=hS
  unfold OkS at hS'
  refine ex2 (Lq og hi hj) fun w x zz=>As zz fun hw hx hc=>?_
  have hh:=H9 og ((i:Int),(j:Int))
  refine A1 (fun v K'=>v=x /\ K'=K) (C6 L rfl (show T_12.meth 5 2=some 18 from rfl) (vs:=[.tup [.int (i:Int),.int (j:Int)]]) (fun h=>h) (Ahb hi hj L hw hx)) ?_
  rintro v K' ⟨rfl,rfl⟩
  refine A1 (fun v K2=>v=.str "#" /\ K2=K') ⟨rfl,rfl⟩ ?_
  rintro v' K2 ⟨rfl,rfl⟩
  -- the word,whatever the height is
  have fin:wpSs T_12 (Ag T_12 (d+4)) zT6 [some (.loc o),some (.loc m),some (.loc B),some (.int (i:Int)),some (.loc pl),some (.int (j:Int)),some v,some (.str (wb (hgt g r c ((i:Int),(j:Int)))))] K2 QS R ES:=by
    have add:∀ z,z=inD es (Ad ((i:Int),(j:Int))) -> wpSs T_12 (Ag T_12 (d+4)) (.cons (.expr (.bm (.var 4) .append (.cons (.var 7) .nil))) .nil) [some (.loc o),some (.loc m),some (.loc B),some (.int (i:Int)),some (.loc pl),some (.int (j:Int)),some v,some (.str (wd (hgt g r c ((i:Int),(j:Int))) z))] K2 QS R ES:=by
      intro z e
      rw [Ae,Ca]
      refine Bk rfl hp ?_
      refine ⟨_,hp,by rw [List.length_map,Dd];exact Asa hS' hj hlid,?_⟩
      have:=q (some v) (some (.str (wd (hgt g r c ((i:Int),(j:Int))) z)))
      rw [Xb,List.map_append,<- e] at this
      exact this
    refine Xe (z:=inD es (Ad ((i:Int),(j:Int)))) ?_ (fun e=>?_) fun e=>?_
    · show Dq (C2 .isin (Ad ((i:Int),(j:Int))) (.loc m) K2) _
      rw [Xd hm,Ae6 (Oi hi hj)]
      exact ⟨rfl,rfl⟩
    · rw [Ae,Bt]
      show Hh .add (.str (wb (hgt g r c ((i:Int),(j:Int))))) (.str "*") K2 _ _
      have l:=Rv (b:=false) hh
      have e1:wd (hgt g r c ((i:Int),(j:Int))) false=wb (hgt g r c ((i:Int),(j:Int))):=rfl
      rw [e1] at l
      rw [Xf (by rw [show ("*":Str).length=1 by decide +kernel];exact Akt hlid l)]
      exact add true e.symm
    · exact add false e.symm
  rcases hc with ⟨rfl,e⟩ | ⟨n,rfl,h0,e⟩
  · rw [e] at fin
    exact Dv (fun K'=>K'=K2) ⟨rfl,rfl⟩ fun K' h=>by rw [h];exact fin
  · rw [e] at fin
    refine V5 (fun K'=>K'=K2) ⟨rfl,rfl⟩ fun K' h=>?_
    rw [h,Ae,Bt]
    show Wp (bfV .str [.int n]) K2 _ _
    rw [Qe (Rz h0 (by have:=(hh n e).2;exact Aku h0 this))]
    exact fin
theorem Ahr {B:Nat} {x4 x5 x6 x7:Option Val} (og:OkG g r c) (hS:OkS r c) (hi:i < r) (hB:K.length=B+1+i) (hmB:m < B) (L:LandAt H o r c lg b s ls g es) (hm:H[m]?=some (.list ((Tl r c es).map Ad))) (e:Ext H K) (eB:H.length=B) (hl:K[B]?=some (.list ((B6 g r c (fun k=>inD es (Ad k)) i).map .str)))
    (q:∀ K' a4 a5 a6 a7,Ext H K' -> K'.length=B+1+(i+1) -> K'[B]?=some (.list ((B6 g r c (fun k=>inD es (Ad k)) (i+1)).map .str)) -> QS [some (.loc o),some (.loc m),some (.loc B),some (.int (i:Int)),a4,a5,a6,a7] K') :
    wpSs T_12 (Ag T_12 (d+4)) zT1
      [some (.loc o),some (.loc m),some (.loc B),some (.int (i:Int)),x4,x5,x6,x7] K QS R ES:=by
  have hlid:lid=16777216:=rfl
  have hS':=hS
  unfold OkS at hS'
  refine A1 (fun v K'=>v=.loc (B+1+i) /\ K'=K++[.list []]) ⟨by rw [hB],rfl⟩ ?_
  rintro v K1 ⟨rfl,e1⟩
  have ex:Ext K K1:=⟨_,e1⟩
  have l1:K1.length=B+2+i:=by rw [e1,List.length_append,hB];show _+1=_;exact Asb
  have p1:K1[B+1+i]?=some (.list []):=by rw [e1,<- hB];exact Ax _ _
  clear e1
  have t1:=ex.get hl
  have E1:=e.trans ex
  clear hl e ex hB
  obtain ⟨I,hI⟩:=Hm (fun (n:Nat) (Γ:Env') (K':Hp)=>Ext H K' /\ K'.length=B+2+i /\ K'[B]?=some (.list ((B6 g r c (fun k=>inD es (Ad k)) i).map .str)) /\ K'[B+1+i]?=some (.list ((G8 g r c (fun k=>inD es (Ad k)) i n).map .str)) /\ ∃ a5 a6 a7,Γ=[some (.loc o),some (.loc m),some (.loc B),some (.int (i:Int)),some (.loc (B+1+i)),a5,a6,a7])
  refine Fc (I c) ?_ ?_
  · refine C1 (n:=c) I ?_ ⟨by exact Akh hS',by exact Aki hS'⟩ ((hI _ _ _).mpr ⟨E1,l1,t1,p1,_,_,_,rfl⟩) ?_ (fun Γ K h=>by rw [Int.toNat_natCast] at h;exact h)
    · refine ex1 ((L.ext E1).inst) fun fs zz=>Fe zz fun h0 h1 h2 h3 h4=>?_
      show Wp (M6 (.loc o) 1) K1 _ _
      rw [Cc h0 h2]
      exact ⟨rfl,rfl⟩
    · clear q
      intro n Γ K2 hn h
      refine Fe ((hI _ _ _).mp h) fun E2 l2 t2 p2 zz=>ex3 zz fun a5 a6 a7 zr7=>?_;subst zr7
      refine Ae8 og hS hi (by exact Aar hn) (L.ext E2) (E2.get hm) p2 fun a b=>(hI _ _ _).mpr ⟨E2.set (by exact Asd l1 l2 eB) _,by rw [List.length_set];exact l2,Ak _ (by exact Ase l1 l2 eB) t2,Ch _ p2,_,_,_,rfl⟩
  intro Γ K2 h
  refine Fe ((hI _ _ _).mp h) fun E2 l2 t2 p2 zz=>ex3 zz fun a5 a6 a7 zr7=>?_;subst zr7
  rw [Ae,Ca]
  refine Bk rfl t2 ?_
  refine Ix ?_
  rw [wvr (v:=.loc (B+1+i)) rfl]
  refine ⟨_,_,rfl,p2,O4 og hS i,_,t2,by rw [List.length_map,De];exact Asf hS' hi l1 l2 hlid eB,q _ _ _ _ _ (E2.set (by exact Aib eB) _) (by rw [List.length_set,l2];exact Asg) ?_⟩
  rw [Ch _ t2,J9,List.map_append];rfl
theorem Ka (og:OkG g r c) (hS:OkS r c) (L:LandAt H o r c lg b s ls g es):Wp (Ag T_12 (d+5) 22 [.loc o]) H (fun v K=>v=.str (Br g r c fun k=>inD es (Ad k)) /\ Ext H K) NoE:=by
  have hS':=hS
  unfold OkS at hS'
  rw [A0 (g:=Abq) rfl rfl]
  refine A1 (fun v K=>∃ m,v=.loc m /\ m < K.length /\ Ext H K /\ K[m]?=some (.list ((Tl r c es).map Ad))) (C6 L rfl (show T_12.meth 5 4=some 20 from rfl) (vs:=[]) (fun h=>h) ((Hn (d:=d+2) (by exact Aif hS') (by exact Afn hS') L).then ?_)) ?_
  · intro v K zz
    refine ex1 zz fun m zz=>By zz fun zr1 _ e h=>?_;subst zr1
    rw [O3] at h
    exact ⟨m,rfl,D7 h,e,h⟩
  intro v K zz
  refine ex1 zz fun m zz=>By zz fun zr1 hm e h=>?_;subst zr1
  refine A1 (fun v K'=>v=.loc K.length /\ K'=K++[.list []]) ⟨rfl,rfl⟩ ?_
  rintro v K1 ⟨rfl,rfl⟩
  obtain ⟨I,hI⟩:=Hm (fun (n:Nat) (Γ:Env') (K':Hp)=>Ext K K' /\ K'.length=K.length+1+n /\ K'[K.length]?=some (.list ((B6 g r c (fun k=>inD es (Ad k)) n).map .str)) /\ ∃ a3 a4 a5 a6 a7,Γ=[some (.loc o),some (.loc m),some (.loc K.length),a3,a4,a5,a6,a7])
  refine Fc (I r) ?_ ?_
  · refine C1 (n:=r) I ?_ ⟨by exact Aid hS',by exact Aie hS'⟩ ((hI _ _ _).mpr ⟨⟨_,rfl⟩,by rw [List.length_append];rfl,Ax _ _,_,_,_,_,_,rfl⟩) ?_ (fun Γ K h=>by rw [Int.toNat_natCast] at h;exact h)
    · refine ex1 (((L.ext e).ext ⟨_,rfl⟩:LandAt (K++[.list []]) o r c lg b s ls g es).inst) fun fs zz=>Fe zz fun h0 h1 h2 h3 h4=>?_
      show Wp (M6 (.loc o) 0) _ _ _
      rw [Cc h0 h1]
      exact ⟨rfl,rfl⟩
    · intro n Γ K2 hn hh
      refine By ((hI _ _ _).mp hh) fun E2 l2 t2 zz=>ex5 zz fun a3 a4 a5 a6 a7 zr8=>?_;subst zr8
      exact Ahr og hS (by exact Aar hn) l2 hm (L.ext e) h E2 rfl t2 fun K' a4 a5 a6 a7 h1 h2 h3=>(hI _ _ _).mpr ⟨h1,h2,h3,_,_,_,_,_,rfl⟩
  intro Γ K2 hh
  refine By ((hI _ _ _).mp hh) fun E2 l2 t2 zz=>ex5 zz fun a3 a4 a5 a6 a7 zr8=>?_;subst zr8
  rw [Ae,Bi,A2]
  refine Ix ?_
  rw [wvr (v:=.loc K.length) rfl]
  exact ⟨_,_,rfl,t2,O5 og hS,rfl,e.trans E2⟩
end
end Mine.Internal.Pure
namespace Mine.Internal.Pure
open PySem
section
variable {T:Tab} {Φ:Funs} {Γ:Env'} {H K:Hp} {Q:Val -> Hp -> Prop} {E:Nat -> Hp -> Prop} {d:Nat} {QS:Env' -> Hp -> Prop} {R:Val -> Hp -> Prop} {ES:Nat -> Env' -> Hp -> Prop} {l r c m o lg b s ls:Nat} {g:List (List Val)} {es:List (Key × Val)}
theorem Xg (hS:OkS r c) (og:OkG g r c) (L:LandAt H o r c lg b s ls g es):Wp (Ag T_12 (d+6) 13 [.loc o]) H (fun _ K=>Ext H K) NoE:=by
  have hS':=hS
  unfold OkS at hS'
  rw [A0 (g:=Abj) rfl rfl]
  refine C0 (fun K=>Ext H K) ?_ ?_
  · rw [N6]
    refine Ao (C6 L rfl (show T_12.meth 5 4=some 20 from rfl) (vs:=[]) (fun h=>h) (Hn (d:=d+3) (by exact Aif hS') (by exact Afn hS') L)) ?_
    intro v K zz
    refine ex1 zz fun m zz=>By zz fun zr1 hm e gm=>?_;subst zr1
    rw [S9 gm]
    exact Zu gm (e.set hm _)
  · intro K e
    rw [Ae,Bi,A2,A9,wcv (v:=.loc o) rfl,Au]
    exact (Ka og hS (L.ext e)).then fun v K' h=>e.trans h.2
theorem Kb {i:Nat} {ss:MSs} (hi:Γ[i]?=some (some (.loc o))) (hS:OkS r c) (og:OkG g r c) (L:LandAt H o r c lg b s ls g es)
    (q:∀ K,Ext H K -> wpSs T_12 (Ag T_12 (d+6)) ss Γ K QS R ES):wpSs T_12 (Ag T_12 (d+6)) (.cons (.expr (.call 13 (.cons (.var i) .nil))) ss) Γ H QS R ES:=by
  refine C0 (fun K=>Ext H K) ?_ q
  rw [A9,wcv hi]
  exact Xg hS og L
theorem Tg {ss:MSs} {x1:Val} (hS:OkS r c) (og:OkG g r c) (G:GAt H l b s g)
    (q:∀ o lg b' ls K,Ext H K -> H.length <= ls -> LandAt K o r c lg b' 1 ls g [] -> ∀ x2,wpSs T_12 (Ag T_12 (d+6)) ss [some (.loc l),some x1,some x2,some (.loc o),none] K QS R ES) :
    wpSs T_12 (Ag T_12 (d+6)) (.cons (.assign 2 (.comp (.bf .list (.cons (.var 5) .nil)) (.var 0) .none)) (.cons (.setitem (.sub (.var 2) (.int 0)) (.int 0) (.int 7)) (.cons (.assign 3 (.new 5 (.cons (.var 2) .nil))) (.cons (.expr (.umeth (.var 3) 3 (.cons (.tup (.cons (.int 0) (.cons (.int 0) .nil))) .nil))) (.cons (.expr (.call 13 (.cons (.var 3) .nil))) (.cons (.expr (.umeth (.var 3) 7 (.cons (.tup (.cons (.int 0) (.cons (.int 0) .nil))) .nil))) (.cons (.expr (.call 13 (.cons (.var 3) .nil))) (.cons (.expr (.umeth (.var 3) 6 (.cons (.tup (.cons (.int 0) (.cons (.int 0) .nil))) (.cons (.sub (.sub (.var 0) (.int 0)) (.int 0)) .nil)))) (.cons (.expr (.call 13 (.cons (.var 3) .nil))) ss)))))))))
      [some (.loc l),some x1,none,none,none] H QS R ES:=by
  have hS':=hS
  unfold OkS at hS'
  obtain ⟨w,x,hw,hx,vx,lw,it,hb⟩:=Ak8 hS og G
  have og1:=og.put hw 0 (x:=.int 7) (.inr ⟨7,rfl,by decide,by decide⟩)
  have gl:=og.len
  have hw1:(g.set 0 (w.set 0 (.int 7)))[0]?=some (w.set 0 (.int 7)):=List.getElem?_set_self (List.getElem?_eq_some_iff.mp hw).1
  have hx1:(w.set 0 (.int 7))[0]?=some (.int 7):=List.getElem?_set_self (List.getElem?_eq_some_iff.mp hx).1
  refine A1 (fun u K=>u=.loc (H.length+g.length) /\ Ext H K /\ GAt K (H.length+g.length) H.length 1 g) ?_ ?_
  · exact Mr (l:=l) (b:=b) (s:=s) (g:=g) rfl G (by rw [gl];show r < 16777216;exact Aka hS' gl) ⟨rfl,rfl⟩ fun K e GK _=>⟨rfl,e,GK⟩
  rintro u K1 ⟨rfl,e1,G1⟩
  show Wp (En (.loc (H.length+g.length)) (.int ((0:Nat):Int))) K1 _ _
  rw [Dl G1.top (G1.item (List.getElem?_eq_some_iff.mp hw).1),Co,Gc (G1.row 0 w hw) (by decide) (by exact Ash hS' lw)]
  show wpSs T_12 _ _ _ (K1.set (H.length+1 * 0) (.list (w.set 0 (.int 7)))) _ _ _
  have G2:=G1.put (Nat.le_refl 1) (show H.length+1 * 0≠H.length+g.length by exact Asi hS' gl) (List.getElem?_eq_some_iff.mp hw).1 (w.set 0 (.int 7))
  have e2:Ext H (K1.set (H.length+1 * 0) (.list (w.set 0 (.int 7)))):=e1.set (Nat.le_add_right _ _) _
  generalize K1.set (H.length+1 * 0) (.list (w.set 0 (.int 7)))=K2 at G2 e2
  clear G1 e1
  refine A1 (fun u K=>∃ o lg b' ls,u=.loc o /\ Ext H K /\ LandAt K o r c lg b' 1 ls (g.set 0 (w.set 0 (.int 7))) [] /\ H.length <= ls /\ H.length <= b' /\ lg=b'+r) ?_ ?_
  · refine (We (d:=d+3) hS og1 G2).then ?_
    intro u K3 zz
    obtain ⟨rfl,e3,lg,b',ls,L,h1,h2,h3⟩:=zz
    exact ⟨_,lg,b',ls,rfl,e2.trans e3,L,Nat.le_trans e2.len (Nat.le_of_lt h3),Nat.le_trans e2.len (Nat.le_of_lt h1),h2⟩
  clear G2 e2
  intro u K3 zz
  obtain ⟨o,lg,b',ls,rfl,e3,L3,bl,bb,hlg⟩:=zz
  have hne:b'+1 * 0≠lg:=by exact Asj hS' hlg gl
  refine C0 (fun K=>Ext H K /\ LandAt K o r c lg b' 1 ls (g.set 0 (w.set 0 (.int 7))) [((0,0),.bool true)]) ?_ ?_
  · refine C6 L3 rfl (show T_12.meth 5 3=some 19 from rfl) (vs:=[.tup [.int 0,.int 0]]) (fun h=>h) ?_
    refine (Fm (d:=d+2) (i:=0) (j:=0) (by exact Aig hS' hlg gl) (by exact Aih hS' lw) L3 hw1 hx1 (by decide)).then ?_
    rintro v K ⟨_,e⟩
    rw [e]
    exact ⟨e3.set bl _,L3.sink⟩
  clear e3 L3 K3
  rintro K4 ⟨e4,L4⟩
  refine Kb rfl hS og1 L4 fun K5 e5=>?_
  refine C0 (fun K=>Ext H K /\ LandAt K o r c lg b' 1 ls (g.set 0 (w.set 0 (.int 7))) []) ?_ ?_
  · refine C6 (L4.ext e5) rfl (show T_12.meth 5 7=some 25 from rfl) (vs:=[.tup [.int 0,.int 0]]) (fun h=>h) ?_
    refine (Ri (d:=d+2) (i:=0) (j:=0) (by exact Aig hS' hlg gl) (by exact Aih hS' lw) (L4.ext e5) rfl).then ?_
    intro v K e
    rw [e]
    exact ⟨(e4.trans e5).set bl _,(L4.ext e5).sink⟩
  clear e4 L4 e5 K5 K4
  rintro K6 ⟨e6,L6⟩
  refine Kb rfl hS og1 L6 fun K7 e7=>?_
  refine C0 (fun K=>Ext H K /\ LandAt K o r c lg b' 1 ls g []) ?_ ?_
  · refine C6 (L6.ext e7) rfl (show T_12.meth 5 6=some 24 from rfl) (vs:=[.tup [.int 0,.int 0],x]) (fun {Q E} h=>?_) ?_
    · show Wp (En (.loc l) (.int ((0:Nat):Int))) K7 _ _
      rw [Dl ((e6.trans e7).get G.top) it]
      show Wp (En (.loc b) (.int ((0:Nat):Int))) K7 _ _
      rw [Dl ((e6.trans e7).get hb) hx]
      exact h
    · refine (Ls (d:=d+2) (i:=0) (j:=0) (by exact Aig hS' hlg gl) (by exact Aih hS' lw) og1 (L6.ext e7) hw1 vx (fun _=>rfl)).then ?_
      intro v K e
      rw [e]
      have L8:=(L6.ext e7).put hw1 hne ((w.set 0 (.int 7)).set 0 x)
      rw [Mw hx,Mw hw] at L8
      rw [Mw hx]
      exact ⟨(e6.trans e7).set (Nat.le_trans bb (Nat.le_add_right _ _)) _,L8⟩
  clear e6 L6 e7 K7 K6
  rintro K8 ⟨e8,L8⟩
  refine Kb rfl hS og L8 fun K9 e9=>?_
  exact q o lg b' ls K9 (e8.trans e9) bl (L8.ext e9) _
theorem Aah {ks:List Key} (hS:OkS r c) (og:OkG g r c) (G:GAt H l b s g) (hm:H[m]?=some (.list (ks.map Ad))) (hk:∀ k∈ks,∃ a,hgt g r c k=some a) (kl:ks.length < 1000) :
    Wp (Ag T_12 (d+7) 14 [.loc l,.loc m]) H (fun v H'=>∃ o lg b' ls es,v=.loc o /\ Ext H H' /\ LandAt H' o r c lg b' 1 ls g es /\ ∀ k,inD es (Ad k)=true↔k∈ks) NoE:=by
  rw [A0 (g:=Abk) rfl rfl]
  refine Tg (d:=d) hS og G fun o lg b' ls K e h4 L x2=>?_
  clear G hS
  obtain ⟨I,hI⟩:=Hm (fun (n:Nat) (Γ:Env') (K:Hp)=>∃ es a,Γ=[some (.loc l),some (.loc m),some x2,some (.loc o),a] /\ Ext H K /\ LandAt K o r c lg b' 1 ls g es /\ (∀ k,inD es (Ad k)=true↔k∈ks.take n) /\ es.length <= n)
  refine Fc (I ks.length) ?_ ?_
  · apply Io
    show Dq (Cj (.loc m) K) _
    rw [Cw (D8 (e.get hm))]
    show WpS (Fo (chk (some m) (ks.map Ad)) (Xu 4) _ (ks.map Ad) _ _) _ _ _
    refine Fb I ((hI _ _ _).mpr ⟨[],none,rfl,e,L,(fun k=>⟨(fun h=>nomatch h),(fun h=>nomatch h)⟩),Nat.le_refl _⟩) ?_ ?_ ?_
    · intro Γ K h
      rw [List.length_map] at h;exact h
    · intro n Γ K _ h
      refine Ah fun G kG=>?_
      refine ex2 ((hI _ _ _).mp h) fun es a zz=>As zz fun _ eK _=>?_
      refine kG ?_
      exact Ek (eK.get hm)
    · clear L e
      intro n z Γ K hz h
      refine Ah fun G kG=>?_
      refine ex2 ((hI _ _ _).mp h) fun es a zz=>Fe zz fun zr2 eK LK hes el=>?_;subst zr2
      refine ex1 (Qb hz) fun q zz=>Ac zz fun hq zr2=>?_;subst zr2
      have ln:=(List.getElem?_eq_some_iff.mp hq).1
      obtain ⟨y,hy⟩:=hk q (List.mem_of_getElem? hq)
      refine ex2 (J2 (Wg hy)) fun i j zz=>As zz fun zr2 hi hj=>?_;subst zr2
      refine ex2 (Lq og hi hj) fun w x zz=>As zz fun hw hx hcase=>?_
      refine kG ?_
      rcases hcase with ⟨_,hn⟩ | ⟨a',rfl,ha0,ha'⟩
      · rw [hn] at hy;exact nomatch hy
      refine ⟨_,rfl,?_⟩
      refine C0 _ (C6 LK rfl (show T_12.meth 5 3=some 19 from rfl) (vs:=[.tup [.int (i:Int),.int (j:Int)]]) (fun h=>h) ((Fm (d:=d+2) hi hj LK hw hx (show es.length < 16777216 by exact Ask kl ln el)).then fun v K e=>e.2)) ?_
      intro K2 e2
      rw [e2]
      refine (hI _ _ _).mpr ⟨_,_,rfl,eK.set h4 _,LK.sink,fun k=>?_,Nat.le_trans (Rg _ _ _) (Nat.succ_le_succ el)⟩
      rw [J3,hes,Dc hq]
  intro Γ K h
  refine Ah fun G kG=>?_
  refine ex2 ((hI _ _ _).mp h) fun es a zz=>Fe zz fun zr2 eK LK hes _=>?_;subst zr2
  refine kG ?_
  rw [List.take_length] at hes
  exact ⟨o,lg,b',ls,es,rfl,eK,LK,hes⟩
end
noncomputable def kt (a b:Key):Bool:=decide (a.1 < b.1) || (decide (a.1=b.1) && decide (a.2 < b.2))
theorem Kc {a b:Key}:kt a b=true↔(a.1 < b.1 \/ (a.1=b.1 /\ a.2 < b.2)):=by
  unfold kt
  rw [Bool.or_eq_true,Bool.and_eq_true,decide_eq_true_iff,decide_eq_true_iff,decide_eq_true_iff]
theorem Ae9 {a b:Key} (h:¬ (a.1 < b.1 \/ (a.1=b.1 /\ a.2 < b.2))):kt a b=false:=Bool.eq_false_iff.mpr fun q=>h (Kc.mp q)
theorem Aai {a b:Key} (h:kt a b=false):¬ (a.1 < b.1 \/ (a.1=b.1 /\ a.2 < b.2)):=fun q=>by rw [Kc.mpr q] at h;exact nomatch h
theorem Xh (a b:Key):Qm Eu (Ad a) (Ad b)=some (kt a b):=by
  have e:Qm Eu (Ad a) (Ad b)=(match Ev [] (.int a.1) (.int b.1) with
    | some true=>(match Ev [] (.int a.2) (.int b.2) with
      | some true=>some false
      | some false=>some (decide (a.2 < b.2))
      | none=>none)
    | some false=>some (decide (a.1 < b.1))
    | none=>none):=rfl
  have pe:∀ x y:Int,Ev [] (.int x) (.int y)=some (decide (x=y)):=fun x y=>rfl
  rw [e,pe,pe]
  unfold kt
  by_cases h1:a.1=b.1
  · rw [decide_eq_true h1,decide_eq_false (show ¬ a.1 < b.1 by exact Akv h1)]
    by_cases h2:a.2=b.2
    · rw [decide_eq_true h2,decide_eq_false (show ¬ a.2 < b.2 by exact Akv h2)];rfl
    · rw [decide_eq_false h2];rfl
  · rw [decide_eq_false h1]
    show some (decide (a.1 < b.1))=some (decide (a.1 < b.1) || false)
    rw [Bool.or_false]
noncomputable def ltV (a b:Val):Bool:=match Ec a,Ec b with
  | some x,some y=>kt x y
  | _,_=>false
theorem Dy {ks:List Key} {C:Val -> Prop} (h:∀ k,C (Ad k)):∀ x∈ks.map Ad,C x:=fun x hx=>by refine ex1 (List.mem_map.mp hx) fun k zz=>Ac zz fun _ e=>?_;exact e▸h k
theorem Th (ks:List Key):Order (ks.map Ad) ltV :=
  ⟨Dy fun a=>Dy fun b=>Xh a b,
   Dy fun a=>Dy fun b h=>Ae9 (a:=b) (b:=a) (by have h:=Kc.mp (show kt a b=true from h);exact Akw h),
   Dy fun a=>Dy fun b=>Dy fun c h1 h2=>Ae9 (a:=c) (b:=a) (by have n1:=Aai (a:=b) (b:=a) h1;have n2:=Aai (a:=c) (b:=b) h2;exact Asl n1 n2),
   Dy fun a=>Dy fun b h1 h2=>by
    have n1:=Aai (a:=a) (b:=b) h1
    have n2:=Aai (a:=b) (b:=a) h2
    rw [show a=b from Prod.ext (by exact Asm n1 n2) (by exact Asn n1 n2)]⟩
theorem Xi (r c:Nat):(keys r c).Pairwise fun a b=>kt a b=true:=by
  induction r with
  | zero=>exact .nil
  | succ r ih =>
    rw [Oj,List.pairwise_append]
    refine ⟨ih,?_,fun a ha b hb=>?_⟩
    · unfold Dm
      rw [List.pairwise_map]
      exact List.pairwise_lt_range.imp fun {i j} h=>Kc (a:=((r:Int),((i:Nat):Int))) (b:=((r:Int),((j:Nat):Int))) |>.mpr (.inr ⟨rfl,Int.ofNat_lt.mpr h⟩)
    · have ha:=of_decide_eq_true (Cy.mp ha)
      refine ex1 (List.mem_map.mp hb) fun j zz=>Ac zz fun _ hr0=>?_;refine hr0▸?_
      exact Kc.mpr (.inl ha.2.1)
theorem Ti (r c:Nat):(keys r c).Nodup:=(Xi r c).imp fun {a b} h e=>by have:=Kc.mp (e▸h:kt a a=true);exact Aso this
theorem Xj {r c:Nat} {ks:List Key} {p:Key -> Bool} (nd:ks.Nodup) (hP:∀ k,k∈ks↔p k=true) (inr:∀ k∈ks,inR r c k=true) (h:r * c <= 63):Ey (ks.map Ad)=some (((keys r c).filter p).map Ad):=by
  have pm:((keys r c).filter p).Perm ks:=by
    rw [List.perm_ext_iff_of_nodup ((Ti r c).sublist (List.filter_sublist)) nd]
    intro k
    rw [List.mem_filter,hP]
    exact ⟨fun h=>h.2,fun h=>⟨Cy.mpr (inr k ((hP k).mpr h)),h⟩⟩
  have hl:ks.length <= 63:=by
    rw [<- pm.length_eq]
    refine Nat.le_trans (List.length_filter_le _ _) ?_
    rw [Gy];exact h
  refine I4 ⟨by rw [List.length_map];exact Asp hl,.inr (Dy fun k=>⟨_,_,rfl⟩),ltV,Th ks⟩ ⟨pm.map Ad,?_⟩
  rw [List.pairwise_map]
  refine ((Xi r c).sublist List.filter_sublist).imp fun {a b} h=>?_
  rw [Xh]
  have:=Kc.mp h
  rw [Ae9 (a:=b) (b:=a) (by exact Akw this)]
theorem Ke:∀ ks:List Key,Kt (ks.map Ad)=some ks
  | []=>rfl
  | k :: ks=>by
    show ((Ec (Ad k)).bind fun k=>(Kt (ks.map Ad)).map fun ks=>k :: ks)=_
    rw [Ke ks];rfl
theorem Afa {H:Hp} {Q:Val -> Hp -> Prop} {E:Nat -> Hp -> Prop} {l r c:Nat} {ks:List Key} {p:Key -> Bool} (h:H[l]?=some (.list (ks.map Ad))) (hl:ks.length <= 64) (hP:∀ k,k∈ks↔p k=true) (inr:∀ k∈ks,inR r c k=true) (hrc:r * c <= 63) (q:Q (.loc H.length) (H++[.list (((keys r c).filter p).map Ad)])):Wp (Lv (.loc l)) H Q E:=by
  refine Wp.of_eq ?_ q
  have e:Tn (.loc l) H=some (((keys r c).filter p).map Ad):=by
    unfold Tn
    have e1:Ks (.loc l) H=some (ks.map Ad):=by
      show (match H[l]? with | some (.list xs)=>some xs | _=>none)=_
      rw [h]
    rw [e1,Option.bind_some,if_pos (by rw [List.length_map];exact hl),Ke,Option.bind_some]
    exact Xj (Ig ks) (fun k=>Kv.trans (hP k)) (fun k hk=>inr k (Kv.mp hk)) hrc
  show (match Tn (.loc l) H with
    | some ys=>M.alloc (.list ys) H
    | none=>.bad)=_
  rw [e];rfl
noncomputable def vD:Val -> PyData
  | .int i=>.int i
  | _=>.none
theorem Afb {H:Hp} {v:Val} (h:HV v) (n:Nat):Az H n v=some (vD v):=by
  rcases h with rfl | ⟨i,rfl,_⟩
  · exact Vw n
  · exact Mq n i
theorem Afc (v:Val):PyData.eqv (vD v) (vD v)=true:=by
  cases v with
  | int i=>exact beq_self_eq_true i
  | _=>rfl
theorem Iy:∀ ds:List PyData,(∀ d∈ds,PyData.eqv d d=true) -> PyData.eqvAll ds ds=true
  | [],_=>rfl
  | d :: ds,h=>by
    show (PyData.eqv d d && PyData.eqvAll ds ds)=true
    rw [h d (.head _),Iy ds fun x hx=>h x (.tail _ hx)];rfl
theorem Iz {K:Hp} {n l:Nat} {xs:List Val} {ds:List PyData} (h:K[l]?=some (.list xs)) (hd:Id (Az K n) xs=some ds):Az K (n+1) (.loc l)=some (.list ds):=by
  have:Az K (n+1) (.loc l)=(match K[l]? with | some (.list xs)=>(Id (Az K n) xs).map .list | _=>none):=rfl
  rw [this,h]
  show (Id (Az K n) xs).map PyData.list=_
  rw [hd];rfl
theorem Qk {f:Val -> Option PyData}:∀ (xs:List Val) (ds:List PyData),xs.length=ds.length -> (∀ (i:Nat) x y,xs[i]?=some x -> ds[i]?=some y -> f x=some y) -> Id f xs=some ds
  | [],[],_,_=>rfl
  | x :: xs,y :: ds,e,h=>by
    show (match f x,Id f xs with | some d,some ds=>some (d :: ds) | _,_=>none)=_
    rw [h 0 x y rfl rfl,Qk xs ds (Nat.succ.inj e) fun i x y hx hy=>h (i+1) x y hx hy]
noncomputable def gD (g:List (List Val)):List PyData:=g.map fun w=>.list (w.map vD)
theorem O6 {K:Hp} {g:List (List Val)} {l b s r c:Nat} (og:OkG g r c) (G:GAt K l b s g):Az K Eu (.loc l)=some (.list (gD g)):=by
  refine Iz G.top (Qk _ _ ?_ ?_)
  · unfold gD;rw [List.length_map,List.length_range,List.length_map]
  · intro i x y hx hy
    unfold gD at hy
    rw [List.getElem?_map] at hy
    refine ex1 (Option.map_eq_some_iff.mp hy) fun w zz=>Ac zz fun hw zr2=>?_;subst zr2
    rw [G.item (List.getElem?_eq_some_iff.mp hw).1] at hx
    cases hx
    refine Iz (G.row i w hw) (Qk _ _ (List.length_map ..).symm ?_)
    intro j x y hx hy
    rw [List.getElem?_map,hx] at hy
    cases hy
    exact Afb ((og.row i w hw).2 x (List.mem_of_getElem? hx)) _
theorem Afd {K:Hp} {g:List (List Val)} {l b s l' b' s' r c:Nat} (og:OkG g r c) (G:GAt K l b s g) (G':GAt K l' b' s' g):Ev K (.loc l) (.loc l')=some true:=by
  unfold Ev
  rw [O6 og G,O6 og G']
  show some (PyData.eqvAll (gD g) (gD g))=some true
  rw [Iy _ fun d hd=>?_]
  refine ex1 (List.mem_map.mp hd) fun w zz=>Ac zz fun _ zr2=>?_;subst zr2
  refine Iy _ fun d hd=>?_
  refine ex1 (List.mem_map.mp hd) fun v zz=>Ac zz fun _ zr2=>?_;subst zr2
  exact Afc v
theorem Afe {K:Hp} {m m':Nat} {ks:List Key} (h:K[m]?=some (.list (ks.map Ad))) (h':K[m']?=some (.list (ks.map Ad))):Ev K (.loc m) (.loc m')=some true:=by
  unfold Ev
  rw [show Az K Eu (.loc m)=_ from Iz h (Ha 4 ks),show Az K Eu (.loc m')=_ from Iz h' (Ha 4 ks)]
  show some (PyData.eqvAll (ks.map Pa) (ks.map Pa))=some true
  rw [Iy _ fun d hd=>?_]
  refine ex1 (List.mem_map.mp hd) fun k zz=>Ac zz fun _ zr2=>?_;subst zr2
  rw [Iw];exact decide_eq_true rfl
theorem Ahs {K:Hp} (a b:Key):C2 .ne (Ad a) (Ad b) K=some (!decide (a=b)):=by
  show Xm true (Ev K (Ad a) (Ad b))=_
  have:Ev K (Ad a) (Ad b)=some (PyData.eqv (Pa a) (Pa b)):=by
    unfold Ev
    rw [show Az K Eu (Ad a)=some (Pa a) from rfl,show Az K Eu (Ad b)=some (Pa b) from rfl]
  rw [this,Iw];rfl
end Mine.Internal.Pure
namespace Mine.Internal.Pure
open PySem PySem.Builtin PySem.Builtin.Str
section
variable {T:Tab} {Φ:Funs} {Γ:Env'} {H K:Hp} {Q:Val -> Hp -> Prop} {E:Nat -> Hp -> Prop} {d:Nat} {QS:Env' -> Hp -> Prop} {R:Val -> Hp -> Prop} {ES:Nat -> Env' -> Hp -> Prop} {l r c m o lg b s ls i j:Nat} {g:List (List Val)} {es:List (Key × Val)} {ks:List Key}
theorem Aaj (og:OkG g r c) (hi:i < r) (hj:j < c) (G:GAt H l b s g) (hm:H[m]?=some (.list (ks.map Ad))) (hk:∀ k∈ks,∃ a,hgt g r c k=some a) :
    Wp (Ag T_12 (d+1) 23 [.loc l,.loc m,.tup [.int (i:Int),.int (j:Int)]]) H (fun v K=>v=.str (wd (hgt g r c ((i:Int),(j:Int))) (decide (((i:Int),(j:Int))∈ks))) /\ K=H) NoE:=by
  have hlid:lid=16777216:=rfl
  refine ex2 (Lq og hi hj) fun w x zz=>As zz fun hw hx hc=>?_
  have hh:=H9 og ((i:Int),(j:Int))
  rw [A0 (g:=Abr) rfl rfl]
  refine A1 (fun v K=>v=x /\ K=H) ?_ ?_
  · show Wp (En (.loc l) (.int (i:Int))) H (fun v H'=>Wp (En v (.int (j:Int))) H' _ _) _
    rw [Ahd G hw hx]
    exact ⟨rfl,rfl⟩
  rintro v K ⟨rfl,rfl⟩
  rcases hc with ⟨rfl,e⟩ | ⟨n,rfl,h0,e⟩
  · have:decide (((i:Int),(j:Int))∈ks)=false:=decide_eq_false fun q=>by obtain ⟨a,ha⟩:=hk _ q;rw [e] at ha;exact nomatch ha
    rw [e,this]
    exact V5 (fun K'=>K'=K) ⟨rfl,rfl⟩ fun K' h=>by rw [h];exact ⟨rfl,rfl⟩
  · rw [e] at hh ⊢
    have st:∀ {Q:Val -> Hp -> Prop} {E:Nat -> Hp -> Prop},Wp (bfV .str [.int n]) K Q E=Q (.str (Av n)) K:=fun {Q E}=>Qe (Rz h0 (by have:=(hh n rfl).2;exact Aku h0 this))
    refine Dv (fun K'=>K'=K) ⟨rfl,rfl⟩ fun K' h=>?_
    rw [h]
    refine Xe (z:=decide (((i:Int),(j:Int))∈ks)) ?_ (fun q=>?_) fun q=>?_
    · show Dq (C2 .isin (Ad ((i:Int),(j:Int))) (.loc m) K) _
      rw [Xd hm]
      exact ⟨rfl,rfl⟩
    · rw [q,Ae,Bi,A2,C7]
      show Wp (bfV .str [.int n]) K _ _
      rw [st]
      show Hh .add (.str (Av n)) (.str "*") K _ _
      have l:=Rv (b:=false) hh
      have e1:wd (some n) false=Av n:=rfl
      rw [e1] at l
      rw [Xf (by rw [show ("*":Str).length=1 by decide +kernel];exact Akt hlid l)]
      exact ⟨rfl,rfl⟩
    · rw [q,Ae,Bi,A2]
      show Wp (bfV .str [.int n]) K _ _
      rw [st]
      exact ⟨rfl,rfl⟩
theorem Aak {v0 v3 v4:Val} (og:OkG g r c) (hS:OkS r c) (hi:i < r) (G:GAt K l b s g) (hm:K[m]?=some (.list (ks.map Ad))) (hk:∀ k∈ks,∃ a,hgt g r c k=some a) :
    wpE T_12 (Ag T_12 (d+1)) (.comp (.call 23 (.cons (.var 1) (.cons (.var 2) (.cons (.tup (.cons (.var 5) (.cons (.var 13) .nil))) .nil)))) (.bf .range (.cons (.bf .len (.cons (.sub (.var 1) (.int 0)) .nil)) .nil)) .none)
      [some v0,some (.loc l),some (.loc m),some v3,some v4,some (.int (i:Int)),none,none,none,none,none,none,none] K
      (fun v K'=>v=.loc K.length /\ K'=K++[.list ((G8 g r c (fun k=>decide (k∈ks)) i c).map .str)]) NoE:=by
  have hlid:lid=16777216:=rfl
  have hS':=hS
  unfold OkS at hS'
  refine Jz (xs:=V4 c) (src:=none) (fun j v=>v=.str (wd (hgt g r c ((i:Int),(j:Int))) (decide (((i:Int),(j:Int))∈ks)))) (Abg (by exact Akb hS') ?_) rfl (by rw [Ir];exact Akc hS' hlid) ?_ ?_
  · show Wp (En (.loc l) (.int 0)) K (fun v H'=>Wp (bfV .len [v]) H' _ _) _
    rw [Rh hS og G]
    exact ⟨rfl,rfl⟩
  · intro j x hx
    obtain ⟨hr0,lj⟩:=Rf hx
    rw [hr0]
    exact Aaj og hi lj G hm hk
  · intro ys hl hp
    refine ⟨rfl,?_⟩
    congr 3
    rw [Ir] at hl
    refine List.ext_getElem? fun j=>?_
    by_cases hj:j < c
    · rw [List.getElem?_map,M1 hj]
      have e:ys[j]?=some ys[j]:=List.getElem?_eq_getElem (by exact Afo hj hl)
      rw [e,hp j _ e];rfl
    · rw [List.getElem?_eq_none (by exact Aks hl hj),List.getElem?_eq_none (by rw [List.length_map,Dd];exact Ajx hl hj)]
theorem Aal {v0 v3:Val} {ss:MSs} (og:OkG g r c) (hS:OkS r c) (G:GAt H l b s g) (hm:H[m]?=some (.list (ks.map Ad))) (hk:∀ k∈ks,∃ a,hgt g r c k=some a)
    (q:∀ K a4 a5,Ext H K -> wpSs T_12 (Ag T_12 (d+1)) ss [some v0,some (.loc l),some (.loc m),some v3,some a4,some a5,some (.str (Br g r c fun k=>decide (k∈ks))),none,none,none,none,none,none] K QS R ES) :
    wpSs T_12 (Ag T_12 (d+1)) (.cons (.assign 4 (.list .nil)) (.cons (.each 5 (.bf .range (.cons (.bf .len (.cons (.var 1) .nil)) .nil)) zT4) (.cons (.assign 6 (.bm (.str "\n") .join (.cons (.var 4) .nil))) ss)))
      [some v0,some (.loc l),some (.loc m),some v3,none,none,none,none,none,none,none,none,none] H QS R ES:=by
  have hlid:lid=16777216:=rfl
  have hS':=hS
  unfold OkS at hS'
  refine A1 (fun v K=>v=.loc H.length /\ K=H++[.list []]) ⟨rfl,rfl⟩ ?_
  rintro v K1 ⟨rfl,rfl⟩
  obtain ⟨I,hI⟩:=Hm (fun (n:Nat) (Γ:Env') (K:Hp)=>Ext H K /\ K[H.length]?=some (.list ((B6 g r c (fun k=>decide (k∈ks)) n).map .str)) /\ ∃ a5,(1 <= n -> ∃ v,a5=some v) /\ Γ=[some v0,some (.loc l),some (.loc m),some v3,some (.loc H.length),a5,none,none,none,none,none,none,none])
  refine Fc (I r) ?_ ?_
  · refine C1 (n:=r) I ?_ ⟨by exact Aid hS',by exact Aie hS'⟩ ((hI _ _ _).mpr ⟨⟨_,rfl⟩,Ax _ _,_,(fun h=>absurd h (by decide)),rfl⟩) ?_ (fun Γ K h=>by rw [Int.toNat_natCast] at h;exact h)
    · show Wp (bfV .len [.loc l]) _ _ _
      rw [Bj (Ext.get ⟨_,rfl⟩ G.top),Mv og (l:=l)]
      exact ⟨rfl,rfl⟩
    · clear q
      intro n Γ K hn h
      refine As ((hI _ _ _).mp h) fun E1 t1 zz=>ex1 zz fun a5 zz=>Ac zz fun _ zr4=>?_;subst zr4
      rw [Ae,Ca]
      refine Bk rfl t1 ?_
      refine Ix ?_
      refine Ao (Aak og hS (show n < r by exact Aar hn) (G.ext E1) (E1.get hm) hk) ?_
      rintro v K2 ⟨rfl,rfl⟩
      have ex:Ext K (K++[.list ((G8 g r c (fun k=>decide (k∈ks)) n c).map .str)]):=⟨_,rfl⟩
      refine ⟨_,_,rfl,Ax _ _,O4 og hS n,_,ex.get t1,by rw [List.length_map,De];exact Asq hn hS' hlid,(hI _ _ _).mpr ⟨(E1.trans ex).set (Nat.le_refl _) _,?_,_,(fun _=>⟨_,rfl⟩),rfl⟩⟩
      rw [Ch _ (ex.get t1),J9,List.map_append];rfl
  intro Γ K h
  refine As ((hI _ _ _).mp h) fun E1 t1 zz=>ex1 zz fun a5 zz=>Ac zz fun h5 zr4=>?_;subst zr4
  obtain ⟨v5,rfl⟩:=h5 (by exact Akr hS')
  refine A1 (fun v K'=>v=.str (Br g r c fun k=>decide (k∈ks)) /\ K'=K) ?_ ?_
  · refine Ix ?_
    rw [wvr (v:=.loc H.length) rfl]
    exact ⟨_,_,rfl,t1,O5 og hS,rfl,rfl⟩
  rintro v K' ⟨rfl,rfl⟩
  exact q _ _ _ E1
end
theorem Kf {r c:Nat} {es:List (Key × Val)} {p:Key -> Bool} (h:∀ k,inR r c k=true -> (inD es (Ad k)=true↔p k=true)):Tl r c es=(keys r c).filter p:=by
  unfold Tl
  exact List.filter_congr fun k hk=>by rw [Bool.eq_iff_iff];exact h k (Cy.mp hk)
theorem Aam (K:Hp) (a b:Val) (h:Ev K a b=some true):C2 .eq a b K=some true:=h
section
variable {T:Tab} {Φ:Funs} {Γ:Env'} {H K:Hp} {Q:Val -> Hp -> Prop} {E:Nat -> Hp -> Prop} {d:Nat} {QS:Env' -> Hp -> Prop} {R:Val -> Hp -> Prop} {ES:Nat -> Env' -> Hp -> Prop} {l r c m o lg b s ls i j:Nat} {g:List (List Val)} {es:List (Key × Val)} {ks:List Key}
theorem O7 {x y b' s':Nat} {op:COp} {z:Bool} (ho:∀ K a b,Ev K a b=some true -> C2 op a b K=some z) (og:OkG g r c) (hS:OkS r c) (L:LandAt K o r c lg b s ls g es) (hx:Γ[x]?=some (some (.loc o))) (hy:Γ[y]?=some (some (.loc l))) (G:GAt K l b' s' g) :
    wpE T_12 (Ag T_12 (d+1)) (.cmp op (.umeth (.var x) 5 .nil) (.var y)) Γ K (fun v K'=>v=.bool z /\ Ext K K') NoE:=by
  unfold OkS at hS
  rw [Bg]
  refine Ao (C6 L hx (show T_12.meth 5 5=some 21 from rfl) (vs:=[]) (fun h=>h) (P9 og hS.2.1 L)) ?_
  rintro v K' ⟨rfl,e,G'⟩
  rw [wvr hy,Cw (ho _ _ _ (Afd og G' (G.ext e)))]
  exact ⟨rfl,e⟩
theorem O8 {x:Nat} {op:COp} {z:Bool} {e:ME} (ho:∀ K a b,Ev K a b=some true -> C2 op a b K=some z) (hS:OkS r c) (L:LandAt K o r c lg b s ls g es) (hx:Γ[x]?=some (some (.loc o))) (hd:Tl r c es=ks)
    (he:∀ K',Ext K K' -> wpE T_12 (Ag T_12 (d+2)) e Γ K' (fun v K2=>∃ m,v=.loc m /\ Ext K' K2 /\ K2[m]?=some (.list (ks.map Ad))) NoE) :
    wpE T_12 (Ag T_12 (d+2)) (.cmp op (.umeth (.var x) 4 .nil) e) Γ K (fun v K'=>v=.bool z /\ Ext K K') NoE:=by
  unfold OkS at hS
  rw [Bg]
  refine Ao (C6 L hx (show T_12.meth 5 4=some 20 from rfl) (vs:=[]) (fun h=>h) (Hn hS.2.1 hS.2.2.2 L)) ?_
  intro v K' zz
  refine ex1 zz fun m' zz=>By zz fun zr1 _ e h=>?_;subst zr1
  rw [O3,hd] at h
  refine Ao (he K' e) ?_
  intro v K2 zz
  refine ex1 zz fun m zz=>As zz fun zr1 e2 h2=>?_;subst zr1
  rw [Cw (ho _ _ _ (Afe (e2.get h) h2))]
  exact ⟨rfl,e.trans e2⟩
theorem I1 {y:Nat} {K0:Hp} (hy:Γ[y]?=some (some (.loc m))) (hm:K0[m]?=some (.list (ks.map Ad))):∀ K',Ext K0 K' -> wpE T Φ (.var y) Γ K' (fun v K2=>∃ m,v=.loc m /\ Ext K' K2 /\ K2[m]?=some (.list (ks.map Ad))) NoE:=fun K' e=>by
  rw [wvr hy]
  exact ⟨m,rfl,Ext.refl _,e.get hm⟩
theorem Aan {v0 a4 a5:Val} {ss:MSs} {p:Key -> Bool} (og:OkG g r c) (hS:OkS r c) (hrc:r * c <= 63) (L:LandAt H o r c lg b s ls g es) (hp:∀ k,p k=true -> ∃ a,hgt g r c k=some a) (hes:∀ k,inD es (Ad k)=true↔p k=true)
    (q:∀ K o2 lg2 b2 ls2 es2,Ext H K -> H.length <= ls2 -> H.length <= b2 -> lg2=b2+r -> LandAt K o2 r c lg2 b2 1 ls2 g es2 -> (∀ k,inD es2 (Ad k)=true↔k∈(keys r c).filter p) -> Xr es2 -> es2.length <= 900 -> wpSs T_12 (Ag T_12 (d+5)) ss [some v0,some (.loc l),some (.loc m),some (.loc o),some a4,some a5,some (.str (Br g r c p)),some (.str (Br g r c p)),some (.loc o2),none,none,none,none] K QS R NoX) :
    wpSs T_12 (Ag T_12 (d+5)) (.cons (.assign 7 (.call 22 (.cons (.var 3) .nil))) (.cons (.ite (.or (.not (.isinst (.var 7) .str)) (.cmp .ne (.var 7) (.var 6))) (.cons (.ret (.some (.bool false))) .nil) .nil) (.cons (.assign 8 (.call 6 (.cons (.var 6) .nil))) ss)))
      [some v0,some (.loc l),some (.loc m),some (.loc o),some a4,some a5,some (.str (Br g r c p)),none,none,none,none,none,none] H QS R NoX:=by
  have t13:=Aaf (p:=p) og hS hrc
  refine A1 (fun v K=>v=.str (Br g r c p) /\ Ext H K) ?_ ?_
  · rw [A9,wcv (v:=.loc o) rfl,Au]
    refine (Ka (d:=d) og hS L).then ?_
    rintro v K ⟨rfl,e⟩
    exact ⟨congrArg Val.str (Gd fun k _=>by rw [Bool.eq_iff_iff];exact hes k),e⟩
  rintro v K1 ⟨rfl,e1⟩
  refine Dv (fun K=>K=K1) ?_ ?_
  · refine Afl (P:=fun K=>K=K1) ⟨rfl,rfl⟩ fun K e=>?_
    rw [e,Bg,wvr (v:=.str (Br g r c p)) rfl,wvr (v:=.str (Br g r c p)) rfl]
    show Dq (Xm true (Ev K1 (.str (Br g r c p)) (.str (Br g r c p)))) _
    have:Ev K1 (.str (Br g r c p)) (.str (Br g r c p))=some true:=by
      unfold Ev
      rw [Iv t13.ok]
      exact congrArg some (beq_self_eq_true _)
    rw [this]
    exact ⟨rfl,rfl⟩
  intro K e
  rw [e]
  clear e K
  refine A1 (fun v K=>∃ o2 lg2 b2 ls2 es2,v=.loc o2 /\ Ext H K /\ H.length <= ls2 /\ H.length <= b2 /\ lg2=b2+r /\ LandAt K o2 r c lg2 b2 1 ls2 g es2 /\ (∀ k,inD es2 (Ad k)=true↔k∈(keys r c).filter p) /\ Xr es2 /\ es2.length <= 900) ?_ ?_
  · rw [A9,wcv (v:=.str (Br g r c p)) rfl,Au]
    refine (Aac (d:=d) t13 (Te og hS hp)).then ?_
    · intro v K zz
      refine Ac zz fun e zz=>ex5 zz fun o2 lg2 b2 ls2 es2 zz=>Ah1 zz fun zr6 L2 h2 u n h3 h4 h5=>?_;subst zr6
      rw [M3 og hS,Qj og hS,Tf og hS hp] at L2
      rw [Aag og hS hp] at h2
      rw [M3 og hS] at h5
      have le:=e1.len
      exact ⟨o2,lg2,b2,ls2,es2,rfl,e1.trans e,by exact Asr h3 le,by exact Ass h5 h4 le,h5,L2,h2,u,n⟩
  intro v K zz
  refine ex5 zz fun o2 lg2 b2 ls2 es2 zz=>Alb zz fun zr5 e h1 h2 h3 L2 h4 h5 h6=>?_;subst zr5
  exact q K o2 lg2 b2 ls2 es2 e h1 h2 h3 L2 h4 h5 h6
theorem Aao {v0 a4 a5:Val} {ss:MSs} {p:Key -> Bool} {t:Str} {o2 lg2 b2 ls2 b' s':Nat} {es2:List (Key × Val)} (og:OkG g r c) (hS:OkS r c) (hrc:r * c <= 63) (G:GAt K l b' s' g) (hm:K[m]?=some (.list (((keys r c).filter p).map Ad))) (L:LandAt K o r c lg b s ls g es) (L2:LandAt K o2 r c lg2 b2 1 ls2 g es2)
    (hes:∀ k,inD es (Ad k)=true↔p k=true) (hes2:∀ k,inD es2 (Ad k)=true↔k∈(keys r c).filter p)
    (q:∀ K',Ext K K' -> wpSs T_12 (Ag T_12 (d+5)) ss [some v0,some (.loc l),some (.loc m),some (.loc o),some a4,some a5,some (.str (Br g r c p)),some (.str t),some (.loc o2),none,none,none,none] K' QS R ES) :
    wpSs T_12 (Ag T_12 (d+5)) (.cons (.ite (.or (.not (.isinst (.var 8) (.cls 5))) (.or (.cmp .ne (.umeth (.var 8) 5 .nil) (.var 1)) (.cmp .ne (.umeth (.var 8) 4 .nil) (.var 2)))) (.cons (.ret (.some (.bool false))) .nil) .nil) (.cons (.ite (.or (.cmp .ne (.umeth (.var 3) 5 .nil) (.var 1)) (.or (.cmp .ne (.umeth (.var 3) 4 .nil) (.var 2)) (.cmp .ne (.call 22 (.cons (.var 8) .nil)) (.var 6)))) (.cons (.ret (.some (.bool false))) .nil) .nil) ss))
      [some v0,some (.loc l),some (.loc m),some (.loc o),some a4,some a5,some (.str (Br g r c p)),some (.str t),some (.loc o2),none,none,none,none] K QS R ES:=by
  have hd:Tl r c es=(keys r c).filter p:=Kf fun k _=>hes k
  have hd2:Tl r c es2=(keys r c).filter p:=Kf fun k hk=>(hes2 k).trans ⟨fun h=>(List.mem_filter.mp h).2,fun h=>List.mem_filter.mpr ⟨Cy.mpr hk,h⟩⟩
  refine Dv (fun K'=>Ext K K') ?_ ?_
  · refine Afl (P:=fun K'=>K'=K) ?_ ?_
    · refine ex1 L2.inst fun fs zz=>Ac zz fun f0 _=>?_
      rw [Es,Dj,wvr (v:=.loc o2) rfl]
      have:A4 T_12 (.loc o2) (.cls 5) K=.ok (.bool true) K:=by
        have e:M5 K[o2]? 5=some (.bool true):=by rw [f0];rfl
        unfold A4
        rw [C4]
        dsimp only
        rw [e]
      exact Wp.of_eq this ⟨rfl,rfl⟩
    · intro K1 e1
      rw [e1]
      refine Afl (P:=fun K'=>Ext K K') (O7 (d:=d+4) Qa og hS L2 rfl rfl G) ?_
      intro K2 e2
      exact Ao (O8 (d:=d+3) Qa hS (L2.ext e2) rfl hd2 (I1 rfl (e2.get hm))) fun v K3 h=>⟨h.1,e2.trans h.2⟩
  intro K1 e1
  refine Dv (fun K'=>Ext K K') ?_ q
  refine Afl (P:=fun K'=>Ext K K') (Ao (O7 (d:=d+4) Qa og hS (L.ext e1) rfl rfl (G.ext e1)) fun v K2 h=>⟨h.1,e1.trans h.2⟩) ?_
  intro K2 e2
  refine Afl (P:=fun K'=>Ext K K') (Ao (O8 (d:=d+3) Qa hS (L.ext e2) rfl hd (I1 rfl (e2.get hm))) fun v K3 h=>⟨h.1,e2.trans h.2⟩) ?_
  intro K3 e3
  rw [Bg,A9,wcv (v:=.loc o2) rfl,Au]
  refine (Ka (d:=d) og hS (L2.ext e3)).then ?_
  rintro v K4 ⟨rfl,e4⟩
  have te:Br g r c (fun k=>inD es2 (Ad k))=Br g r c p:=Gd fun k hk=>by
    rw [Bool.eq_iff_iff,hes2]
    exact ⟨fun h=>(List.mem_filter.mp h).2,fun h=>List.mem_filter.mpr ⟨Cy.mpr hk,h⟩⟩
  have:Ev K4 (.str (Br g r c p)) (.str (Br g r c p))=some true:=by
    unfold Ev
    rw [Iv Rx]
    exact congrArg some (beq_self_eq_true _)
  rw [wvr (v:=.str (Br g r c p)) rfl,te,Cw (Qa _ _ _ this)]
  exact ⟨rfl,e3.trans e4⟩
end
section
variable {T:Tab} {Φ:Funs} {Γ:Env'} {H K:Hp} {Q:Val -> Hp -> Prop} {E:Nat -> Hp -> Prop} {d:Nat} {QS:Env' -> Hp -> Prop} {R:Val -> Hp -> Prop} {ES:Nat -> Env' -> Hp -> Prop} {l r c m o lg b s ls i j:Nat} {g:List (List Val)} {es:List (Key × Val)} {ks:List Key}
theorem Aff {x y:Nat} {xs ys:List Val} (hx:H[x]?=some (.list xs)) (hy:H[y]?=some (.list ys)) (h:xs.length+ys.length <= lid):Hh .add (.loc x) (.loc y) H Q E=Q (.loc H.length) (H++[.list (xs++ys)]):=by
  have:Xl .add (.loc x) (.loc y) H=.ok (.loc H.length) (H++[.list (xs++ys)]):=by
    show (match H[x]?,H[y]? with
    | some (.list xs),some (.list ys)=>if xs.length+ys.length <= lid then M.alloc (.list (xs++ys)) H else .bad
    | _,_=>.bad)=_
    rw [hx,hy]
    exact if_pos h
  show Wp (Xl .add (.loc x) (.loc y)) H Q E=_
  unfold Wp;rw [this]
theorem Afg {a e:ME} {P:Hp -> Prop} (h:wpE T Φ a Γ H (fun v H'=>v=.bool true /\ P H') NoE) (q:∀ K,P K -> wpE T Φ e Γ K Q NoE):wpE T Φ (.and a e) Γ H Q NoE:=by
  rw [Jp];refine Ao h ?_
  rintro v K ⟨rfl,p⟩;exact q K p
theorem Xk {ns:List Int} {x2 x3 x4 x5 x6 x7 x8:Val} {ss:MSs} (og:OkG g r c) (hS:OkS r c) (G:GAt K l b s g)
    (q:∀ (x9:Val) (pi pj:Nat),pi < r -> pj < c -> wpSs T_12 (Ag T_12 (d+1)) ss [some (.script ns),some (.loc l),some x2,some x3,some x4,some x5,some x6,some x7,some x8,some x9,some (Ad ((pi:Int),(pj:Int))),none,none] K QS R ES) :
    wpSs T_12 (Ag T_12 (d+1)) (.cons (.assign 9 (.call 7 (.cons (.var 0) (.cons (.bf .max2 (.cons (.int 0) (.cons (.bin .sub (.bf .len (.cons (.var 0) .nil)) (.int 1)) .nil))) .nil)))) (.cons (.assign 10 (.tup (.cons (.bin .mod (.var 9) (.bf .len (.cons (.var 1) .nil))) (.cons (.bin .mod (.bin .fdiv (.var 9) (.int 31)) (.bf .len (.cons (.sub (.var 1) (.int 0)) .nil))) .nil)))) ss))
      [some (.script ns),some (.loc l),some x2,some x3,some x4,some x5,some x6,some x7,some x8,none,none,none,none] K QS R ES:=by
  have hS':=hS
  unfold OkS at hS'
  refine A1 (fun v K'=>∃ x:Int,v=.int x /\ K'=K) ?_ ?_
  · have e:(if (ns.length:Int) - 1 > 0 then (ns.length:Int) - 1 else 0)=((ns.length - 1:Nat):Int):=by split <;> omega
    rw [A9,wcv (v:=.script ns) rfl,Am,D5,Am,Co,Am,C7,D5,wcv (v:=.script ns) rfl,Au,B2,Co,Rc,Au,P5,Au,e,Fl]
    exact ⟨_,rfl,rfl⟩
  rintro v K' ⟨x,rfl,rfl⟩
  refine ex1 (Ct x r (by exact Ahx hS')) fun pi zz=>Ac zz fun e1 l1=>?_
  refine ex1 (Ct (Int.fdiv x 31) c (by exact Ast hS')) fun pj zz=>Ac zz fun e2 l2=>?_
  refine A1 (fun v K2=>v=Ad ((pi:Int),(pj:Int)) /\ K2=K') ?_ ?_
  · rw [Jq,Am,C7,wvr (v:=.int x) rfl,D5,wcv (v:=.loc l) rfl,Au,Bj G.top,Mv og (l:=l),Lj,e1]
    refine ⟨by exact Asu hS',?_⟩
    rw [Am,C7,C7,wvr (v:=.int x) rfl,Co,Js]
    refine ⟨by decide,?_⟩
    show Wp (En (.loc l) (.int 0)) K' (fun v H'=>Wp (bfV .len [v]) H' _ _) _
    rw [Rh hS og G,Lj,e2,Au]
    exact ⟨by exact Asv hS',rfl,rfl⟩
  rintro v K2 ⟨rfl,rfl⟩
  exact q _ pi pj l1 l2
theorem Aap {v0 x2 x3 x4 x5 x6 x7 x9:Val} {ss:MSs} {o2 lg2 b2 ls2 pi pj:Nat} {es2:List (Key × Val)} (og:OkG g r c) (hS:OkS r c) (G:GAt H l b s g) (e:Ext H K) (L2:LandAt K o2 r c lg2 b2 1 ls2 g es2) (h1:H.length <= ls2) (h2:H.length <= b2) (h3:lg2=b2+r) (hn:es2.length <= 900) (hi:pi < r) (hj:pj < c)
    (q:∀ K' w lD bD,g[pi]?=some w -> Ext H K' -> LandAt K' o2 r c lg2 b2 1 ls2 (g.set pi (w.set pj (.int 7))) (Hq es2 ((pi:Int),(pj:Int)) (.bool true)) -> GAt K' lD bD 1 (g.set pi (w.set pj (.int 7))) -> ls2 < bD -> ls2 < lD -> wpSs T_12 (Ag T_12 (d+4)) ss [some v0,some (.loc l),some x2,some x3,some x4,some x5,some x6,some x7,some (.loc o2),some x9,some (Ad ((pi:Int),(pj:Int))),some (.loc lD),none] K' QS R ES) :
    wpSs T_12 (Ag T_12 (d+4)) (.cons (.assign 11 (.comp (.bf .list (.cons (.var 13) .nil)) (.var 1) .none)) (.cons (.setitem (.sub (.var 11) (.sub (.var 10) (.int 0))) (.sub (.var 10) (.int 1)) (.int 7)) (.cons (.expr (.umeth (.var 8) 6 (.cons (.var 10) (.cons (.int 7) .nil)))) (.cons (.expr (.umeth (.var 8) 3 (.cons (.var 10) .nil))) ss))))
      [some v0,some (.loc l),some x2,some x3,some x4,some x5,some x6,some x7,some (.loc o2),some x9,some (Ad ((pi:Int),(pj:Int))),none,none] K QS R ES:=by
  have hlid:lid=16777216:=rfl
  have hS':=hS
  unfold OkS at hS'
  have gl:=og.len
  obtain ⟨w,hw⟩:∃ w,g[pi]?=some w:=⟨_,List.getElem?_eq_getElem (by exact Afo hi gl)⟩
  have lw:=(og.row pi w hw).1
  have gi:=(List.getElem?_eq_some_iff.mp hw).1
  have ls:=D7 L2.sinks
  have lb:=D7 (L2.grid.row pi w hw)
  refine A1 (fun u K1=>u=.loc (K.length+g.length) /\ Ext K K1 /\ GAt K1 (K.length+g.length) K.length 1 g) ?_ ?_
  · exact Mr (l:=l) (b:=b) (s:=s) (g:=g) rfl (G.ext e) (by exact Asw hS' hlid gl) ⟨rfl,rfl⟩ fun K1 e1 GK _=>⟨rfl,e1,GK⟩
  rintro u K1 ⟨rfl,e1,G1⟩
  show Wp (En (.loc (K.length+g.length)) (.int (pi:Int))) K1 _ _
  rw [Dl G1.top (G1.item gi)]
  show Wp (Bw (.loc (K.length+1 * pi)) (.int (pj:Int)) (.int 7)) K1 _ _
  rw [Gc (G1.row pi w hw) (by exact Aas) (by exact Akj hj lw),Int.toNat_natCast]
  have G2:=G1.put (Nat.le_refl 1) (show K.length+1 * pi≠K.length+g.length by exact Asx hi gl) gi (w.set pj (.int 7))
  have L3:=L2.ext (e1.set (show K.length <= K.length+1 * pi by exact Akx) (.list (w.set pj (.int 7))))
  have e3:Ext H (K1.set (K.length+1 * pi) (.list (w.set pj (.int 7)))):=e.trans (e1.set (by exact Akx) _)
  generalize K1.set (K.length+1 * pi) (.list (w.set pj (.int 7)))=K2 at G2 L3 e3
  clear G1 e1 K1
  have og':=og.put hw pj (x:=.int 7) (.inr ⟨7,rfl,by decide,by decide⟩)
  have hw':(g.set pi (w.set pj (.int 7)))[pi]?=some (w.set pj (.int 7)):=List.getElem?_set_self gi
  have hx':(w.set pj (.int 7))[pj]?=some (.int 7):=List.getElem?_set_self (by exact Afo hj lw)
  refine C0 (fun K'=>Ext H K' /\ LandAt K' o2 r c lg2 b2 1 ls2 (g.set pi (w.set pj (.int 7))) es2 /\ GAt K' (K.length+g.length) K.length 1 (g.set pi (w.set pj (.int 7)))) ?_ ?_
  · refine C6 L3 rfl (show T_12.meth 5 6=some 24 from rfl) (vs:=[.tup [.int (pi:Int),.int (pj:Int)],.int 7]) (fun h=>h) ?_
    refine (Ls (d:=d) hi hj og L3 hw (.inr ⟨7,rfl,by decide,by decide⟩) (fun h=>nomatch h)).then ?_
    intro v K' e'
    rw [e']
    exact ⟨e3.set (by exact Asy h3 gl h2) _,L3.put hw (by exact Asz hi h3 gl) _,G2.other _ (by exact As0 hS' lb h3 gl) fun n hn=>by exact As1 lb h3 gl⟩
  clear L3 G2 e3
  rintro K3 ⟨e3,L3,G3⟩
  refine C0 (fun K'=>Ext H K' /\ LandAt K' o2 r c lg2 b2 1 ls2 (g.set pi (w.set pj (.int 7))) (Hq es2 ((pi:Int),(pj:Int)) (.bool true)) /\ GAt K' (K.length+g.length) K.length 1 (g.set pi (w.set pj (.int 7)))) ?_ ?_
  · refine C6 L3 rfl (show T_12.meth 5 3=some 19 from rfl) (vs:=[.tup [.int (pi:Int),.int (pj:Int)]]) (fun h=>h) ?_
    refine (Fm (d:=d) hi hj L3 hw' hx' (by exact As2 hlid hn)).then ?_
    rintro v K' ⟨_,e'⟩
    rw [e']
    exact ⟨e3.set h1 _,L3.sink,G3.other _ (by exact As3 hS' ls gl) fun n hn=>by exact Aic ls⟩
  rintro K4 ⟨e4,L4,G4⟩
  exact q K4 w _ _ hw e4 L4 G4 ls (by exact As4 hS' ls gl)
theorem Afh {x pl:Nat} {k:Key} (hx:Γ[x]?=some (some (.loc m))) (hy:Γ[pl]?=some (some (Ad k))) (hm:K[m]?=some (.list (ks.map Ad))) (hl:ks.length <= 63) (inr:∀ k∈ks,inR r c k=true) (ik:inR r c k=true) (hrc:r * c <= 63) :
    ∀ K',Ext K K' -> wpE T Φ (.sset (.bin .add (.var x) (.list (.cons (.var pl) .nil)))) Γ K' (fun v K2=>∃ m,v=.loc m /\ Ext K' K2 /\ K2[m]?=some (.list (((keys r c).filter fun k'=>decide (k'∈ks++[k])).map Ad))) NoE:=by
  intro K' e
  have hlid:lid=16777216:=rfl
  have e1:Ext K' (K'++[.list [Ad k]]):=⟨_,rfl⟩
  rw [Ad8,C7,wvr hx,Ej,wcv hy,Au,Aff (e1.get (e.get hm)) (Ax _ _) (by rw [List.length_map];show _+1 <= _;exact As5 hlid hl)]
  refine Afa (r:=r) (c:=c) (ks:=ks++[k]) (p:=fun k'=>decide (k'∈ks++[k])) ?_ (by rw [List.length_append];show _+1 <= _;exact As6 hl) (fun k'=>decide_eq_true_iff.symm) (fun k' h=>?_) hrc ⟨_,rfl,(e1.new _).new _,Ax _ _⟩
  · rw [Ax,List.map_append];rfl
  · rcases List.mem_append.mp h with h | h
    · exact inr k' h
    · rw [List.mem_singleton.mp h];exact ik
theorem Aaq {v0 x4 x5 x6 x7 x9:Val} {p:Key -> Bool} {o2 lg2 b2 ls2 pi pj lD bD:Nat} {es2:List (Key × Val)} {g':List (List Val)} (og:OkG g r c) (og':OkG g' r c) (hS:OkS r c) (hrc:r * c <= 63) (G:GAt H l b s g) (hm:H[m]?=some (.list (((keys r c).filter p).map Ad))) {lg1 b1 s1 ls1:Nat} (L:LandAt H o r c lg1 b1 s1 ls1 g es) (hes:∀ k,inD es (Ad k)=true↔p k=true)
    (hp:∀ k,p k=true -> inR r c k=true) (e:Ext H K) (h1:H.length <= ls2) (L2:LandAt K o2 r c lg2 b2 1 ls2 g' (Hq es2 ((pi:Int),(pj:Int)) (.bool true))) (GD:GAt K lD bD 1 g') (d1:ls2 < bD) (d2:ls2 < lD) (hes2:∀ k,inD es2 (Ad k)=true↔k∈(keys r c).filter p) (u:Xr es2) (hi:pi < r) (hj:pj < c) (q:∀ K,R (.bool true) K) :
    wpSs T_12 (Ag T_12 (d+4)) zT2
      [some v0,some (.loc l),some (.loc m),some (.loc o),some x4,some x5,some x6,some x7,some (.loc o2),some x9,some (Ad ((pi:Int),(pj:Int))),some (.loc lD),none] K QS R NoX:=by
  have kl:((keys r c).filter p).length <= 63:=Nat.le_trans (List.length_filter_le _ _) (by rw [Gy];exact hrc)
  have ik:inR r c ((pi:Int),(pj:Int))=true:=Oi hi hj
  have mk:∀ k,k∈(keys r c).filter p↔p k=true:=fun k=>⟨fun h=>(List.mem_filter.mp h).2,fun h=>List.mem_filter.mpr ⟨Cy.mpr (hp k h),h⟩⟩
  refine Dv (fun K'=>Ext K K') ?_ ?_
  · refine Afl (P:=fun K'=>Ext K K') (O7 (d:=d+3) Qa og' hS L2 rfl rfl GD) ?_
    intro K2 e2
    refine Ao (O8 (d:=d+2) Qa hS (L2.ext e2) rfl (Kf fun k hk=>?_) (Afh rfl rfl ((e.trans e2).get hm) kl (fun k h=>hp k ((mk k).mp h)) ik hrc)) fun v K3 h=>⟨h.1,e2.trans h.2⟩
    rw [J3,hes2,decide_eq_true_iff,List.mem_append,List.mem_singleton]
  intro K1 e1
  refine C0 (fun K'=>Ext H K' /\ LandAt K' o2 r c lg2 b2 1 ls2 g' (M4 (Hq es2 ((pi:Int),(pj:Int)) (.bool true)) ((pi:Int),(pj:Int))) /\ GAt K' lD bD 1 g') ?_ ?_
  · refine C6 (L2.ext e1) rfl (show T_12.meth 5 7=some 25 from rfl) (vs:=[.tup [.int (pi:Int),.int (pj:Int)]]) (fun h=>h) ?_
    refine (Ri (d:=d) hi hj (L2.ext e1) ((J3 _ _ _ _).mpr (.inr rfl))).then ?_
    intro v K' e'
    rw [e']
    exact ⟨(e.trans e1).set h1 _,(L2.ext e1).sink,(GD.ext e1).other _ (by exact As7 d2) fun n hn=>by exact Aic d1⟩
  clear L2 GD e e1 K1
  rintro K2 ⟨e2,L3,G3⟩
  refine A1 (fun v K'=>v=.loc K2.length /\ K'=K2++[.list ((((keys r c).filter p).filter fun k=>!decide (k=((pi:Int),(pj:Int)))).map Ad)]) ?_ ?_
  · refine Aen (l:=m) rfl (e2.get hm) (by exact Aky kl) ⟨rfl,rfl⟩ (fun k hk=>?_) ⟨rfl,rfl⟩
    rw [Bg,wvr (v:=Ad k) rfl,wvr (v:=Ad ((pi:Int),(pj:Int))) rfl,Ahs]
    exact ⟨rfl,rfl⟩
  rintro v K3 ⟨rfl,e3⟩
  have ex:Ext K2 K3:=⟨_,e3⟩
  have hl:K3[K2.length]?=some (.list ((((keys r c).filter p).filter fun k=>!decide (k=((pi:Int),(pj:Int)))).map Ad)):=by rw [e3];exact Ax _ _
  clear e3
  rw [Ae,Bi,A2]
  refine Afg (P:=fun K'=>Ext K3 K') (O7 (d:=d+3) Aam og' hS (L3.ext ex) rfl rfl (G3.ext ex)) ?_
  intro K4 e4
  refine Afg (P:=fun K'=>Ext K3 K') (Ao (O8 (d:=d+2) Aam hS ((L3.ext ex).ext e4) rfl ?_ (I1 rfl (e4.get hl))) fun v K5 h=>⟨h.1,e4.trans h.2⟩) ?_
  · rw [List.filter_filter]
    refine Kf fun k hk=>?_
    rw [Ahe (Om u _ _),J3,hes2,mk,Bool.and_eq_true,Bool.not_eq_true',decide_eq_false_iff_not]
    exact ⟨fun h=>⟨h.2,h.1.resolve_right h.2⟩,fun h=>⟨.inl h.2,h.1⟩⟩
  intro K5 e5
  have e6:=(e2.trans ex).trans e5
  refine Afg (P:=fun K'=>Ext H K') (Ao (O7 (d:=d+3) Aam og hS (L.ext e6) rfl rfl (G.ext e6)) fun v K6 h=>⟨h.1,e6.trans h.2⟩) ?_
  intro K6 e7
  refine Ao (O8 (d:=d+2) Aam hS (L.ext e7) rfl (Kf fun k hk=>hes k) (I1 rfl (e7.get hm))) ?_
  rintro v K7 ⟨rfl,_⟩
  exact q _
end
theorem law_12 (ns:List Int) (_:ns.length <= 63):∃ H',Ag T_12 20 15 [.script ns] []=.ok (.bool true) H':=by
  have main:Wp (Ag T_12 (12+8) 15 [.script ns]) [] (fun v _=>v=.bool true) NoE:=by
    rw [A0 (g:=Abl) rfl rfl]
    refine A1 _ (Z1 (d:=12+4) ns) ?_
    intro v H1 zz
    refine ex4 zz fun r c g l zz=>Fe zz fun zr4 hS hrc og G=>?_;subst zr4
    refine A1 _ (Qd (d:=12+5) ns hS og G) ?_
    intro v H2 zz
    refine ex3 zz fun m n e zz=>By zz fun zr3 _ e2 hm=>?_;subst zr3
    have hp:∀ k,Kn g r c n e k=true -> ∃ a,hgt g r c k=some a:=fun k h=>Option.isSome_iff_exists.mp (by unfold Kn at h;exact (Bool.and_eq_true _ _▸h).1)
    generalize Kn g r c n e=p at hm hp
    have hpr:∀ k,p k=true -> inR r c k=true:=fun k h=>by obtain ⟨a,ha⟩:=hp k h;exact Wg ha
    have mk:∀ k,k∈(keys r c).filter p↔p k=true:=fun k=>⟨fun h=>(List.mem_filter.mp h).2,fun h=>List.mem_filter.mpr ⟨Cy.mpr (hpr k h),h⟩⟩
    have kl:((keys r c).filter p).length <= 63:=Nat.le_trans (List.length_filter_le _ _) (by rw [Gy];exact hrc)
    refine A1 _ (Aah (d:=12) hS og (G.ext e2) hm (fun k hk=>hp k ((mk k).mp hk)) (by exact Aky kl)) ?_
    intro v H3 zz
    refine ex5 zz fun o lg b' ls es zz=>By zz fun zr5 e3 L hes=>?_;subst zr5
    have hes':∀ k,inD es (Ad k)=true↔p k=true:=fun k=>(hes k).trans (mk k)
    have e23:=e2.trans e3
    refine Aal (d:=12+6) og hS (G.ext e23) (e3.get hm) (fun k hk=>hp k ((mk k).mp hk)) fun H4 a4 a5 e4=>?_
    rw [Gd (q:=p) fun k _=>by rw [Bool.eq_iff_iff,decide_eq_true_iff];exact mk k]
    refine Aan (d:=12+2) og hS hrc (L.ext e4) hp hes' fun K o2 lg2 b2 ls2 es2 eK h1 h2 h3 L2 hes2 u hn=>?_
    have G4:=(G.ext e23).ext e4
    have m4:=e4.get (e3.get hm)
    have L4:=L.ext e4
    refine Aao (d:=12+2) og hS hrc (G4.ext eK) (eK.get m4) (L4.ext eK) L2 hes' hes2 fun K5 e5=>?_
    have eK5:=eK.trans e5
    refine Xk (d:=12+6) og hS (G4.ext eK5) fun x9 pi pj hi hj=>?_
    refine Aap (d:=12+3) og hS G4 eK5 (L2.ext e5) h1 h2 h3 hn hi hj fun K6 w lD bD hw e6 L6 G6 d1 d2=>?_
    exact Aaq (d:=12+3) og (og.put hw pj (.inr ⟨7,rfl,by decide,by decide⟩)) hS hrc G4 m4 L4 hes' hpr e6 h1 L6 G6 d1 d2 hes2 u hi hj fun K=>rfl
  refine ex2 main.get fun a H' zz=>Ac zz fun h zr3=>?_;subst zr3
  exact ⟨H',h⟩
end Mine.Internal.Pure
namespace Mine.Internal
open PySem PySem.W PySem.Calls
noncomputable def headAll (t:Addr -> Option Obj) (N:Names) (T:Tab) (cls:List Value) (attrs:List Str) (fns:List Addr) (nss:List (List Str)):Bool :=
  Vp t N T cls fns nss && Lf t N T attrs fns 0 cls && Mj N attrs && (t sysModules).isSome
noncomputable def fns_12:List Addr:=[28,35,42,110,117,202,209,216,223,230,237,242,249,256,261,273,129,136,143,164,176,181,195,268,157,171]
noncomputable def q_12:Program:=view PySem.Challenge.pw_uf020016_12 [PySem.Challenge.pw_uf020016_12.main.body.length - 1]
noncomputable def loose_12:List Str:=(PySem.Challenge.pw_uf020016_12.main.scope.names.map (·.1)).filter (· != "law")
set_option maxRecDepth 100000
set_option maxHeartbeats 0
theorem left_12:LeftO PySem.Challenge.pw_uf020016_12 q_12 loose_12 (fun s=>recOk [] s) (fun s=>headAll s.heap.get? N_12 T_12 [.ref 52,.ref 65,.ref 77,.ref 89,.ref 101,.ref 184,.type "ValueError"] ["rows","columns","grid","sinks"] fns_12 V_12) (fun _=>true) 9000 true:=by
  refine Ad5 (M:=8000) (by kernel_rfl) (by kernel_rfl) (fun s=>by kernel_rfl) (by kernel_rfl) ?_
  intro w os
  rw [PySem.W.Fast.te4187177175401517315]
  kernel_rfl
theorem said_12:PySem.Challenge.rw_uf020016_12.wellSaid=true:=by
  rw [PySem.W.Fast.te9446332074065402090]
  kernel_rfl
noncomputable def Ia:DefRec × List (Str × Expr):=(defOf q_12 "law").get (by kernel_rfl)
theorem hdef_12:defOf q_12 "law"=some (Ia.1,Ia.2):=by kernel_rfl
theorem hp_12:PySem.Challenge.pw_uf020016_12.theDef "law"=some (Ia.1.params,Ia.1.body,Ia.1.scope):=by kernel_rfl
theorem hk_12:kwWritten? Ia.1.params.kwonlyargs Ia.1.params.kw_defaults=some Ia.2:=by kernel_rfl
end Mine.Internal
open PySem PySem.W PySem.W.X PySem.W.ZRun PyProof.Rows
set_option maxRecDepth 100000 in
set_option maxHeartbeats 0 in
theorem PySem.Challenge.cw_uf020016_12_holds : PySem.Challenge.rw_uf020016_12.Holds := by
  refine holds_law Mine.Internal.said_12 fun Aaw => ?_
  refine holds_openX (q := Mine.Internal.q_12) (loose := Mine.Internal.loose_12) (Xt := fun s => recOk [] s) (XP := fun _ _ => True) (N := 9000) Mine.Internal.left_12 (fun _ _ => trivial) (fun _ _ _ h _ => h) Mine.Internal.hdef_12 Mine.Internal.hp_12 Mine.Internal.hk_12 (fun s e => recFacts_of e) rfl Aaw (by decide +kernel) ⟨rfl, rfl, rfl, rfl, rfl, by decide +kernel⟩ ?hw ?hc
  case hw => exact ⟨[.list []], by decide +kernel, by decide +kernel⟩
  intro w s₀ s₁ mg mb G y fa o pm cd doc dV kV ho hd hcd hD hmg hg args vals as L hpre hlay hrd hwl hlo
  refine Ground.open G ?_
  intro T B D TE TW
  wrow_args hpre hlay hrd hwl hlo
  have y' : Mine.Internal.headAll s₀.heap.get? Mine.Internal.N_12 Mine.Internal.T_12 [.ref 52, .ref 65, .ref 77, .ref 89, .ref 101, .ref 184, .type "ValueError"] ["rows", "columns", "grid", "sinks"] Mine.Internal.fns_12 Mine.Internal.V_12 = true := y
  unfold Mine.Internal.headAll at y'
  simp only [Bool.and_eq_true] at y'
  obtain ⟨⟨⟨y1, y2⟩, y3⟩, y4⟩ := y'
  refine Mine.Internal.finish (t := s₀.heap.get?) (N := Mine.Internal.N_12) (T := Mine.Internal.T_12) (cls := [.ref 52, .ref 65, .ref 77, .ref 89, .ref 101, .ref 184, .type "ValueError"]) (attrs := ["rows", "columns", "grid", "sinks"]) (fns := Mine.Internal.fns_12) (nss := Mine.Internal.V_12) (k := 15) (d := 20) L.keeps T.g T.b T.builtins T.nolimit y1 y2 y3 y4 (script_obj L (by assumption)) (by assumption) (by omega) hmg rfl ⟨rfl, by decide, by decide⟩ (Mine.Internal.Pure.law_12 _ (by omega)) ?_
  intro s' hk ho' hg'
  exact ⟨.inl ⟨_, .bool true, [], rfl, raisesW_false (by wrow_none_raised), .bool true, by wrow_post, fun _ => ⟨List.nodup_nil, fun a ha => by cases ha⟩⟩, .of_keep hk, ho', .of_eq (hg'.trans hg)⟩
