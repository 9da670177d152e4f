import PyProof.Rows.All
import Wide.All
import OpenK.AllK
import Wide.FinOn
import KE.FramesApart
import KE.IntText
import KE.KDictList
import KE.KDictOf
import KE.KDictSum
import KE.KIntText
import KE.KItemsList
import KE.KRevIter
import Open.Pieces
import PyProof.AssignAttr
import PyProof.AttrMiss
import PyProof.CallStr
import PyProof.CallTypeRange
import PyProof.Cells
import PyProof.CompFree
import PyProof.CompIC
import PyProof.CompMap
import PyProof.ConsumeWalk
import PyProof.DictCalls
import PyProof.DictDisplay
import PyProof.DictItems
import PyProof.DictRoads
import PyProof.DictStraight
import PyProof.DictTruth
import PyProof.DictUpdate
import PyProof.DictWalks
import PyProof.Draws
import PyProof.Ends
import PyProof.EnumMake
import PyProof.EqKinds
import PyProof.ExcAttrAll.ValueError
import PyProof.ExcBaseAll.ValueError
import PyProof.ExcClass2
import PyProof.ExcClsAt2
import PyProof.ForAny
import PyProof.ForRange
import PyProof.InstStoreFacts
import PyProof.IsiH_list
import PyProof.IsiHeapPairs
import PyProof.IsiNone
import PyProof.IsiPairs
import PyProof.IsiSeqPairs
import PyProof.LetGo
import PyProof.ListCopy
import PyProof.ListIndex
import PyProof.ListIndexNeg
import PyProof.ListOps
import PyProof.MeetsDictList
import PyProof.MeetsStr2
import PyProof.Methods
import PyProof.NeKinds
import PyProof.NsMap
import PyProof.P3Eq
import PyProof.P3Statements
import PyProof.PassesOwn
import PyProof.PureInt
import PyProof.PureStr
import PyProof.Raises
import PyProof.ReprReads
import PyProof.ReprRoads
import PyProof.Rows.IntRules
import PyProof.Rows.RuleB_floordiv
import PyProof.Rows.RuleB_mod
import PyProof.Rows.RuleB_pow
import PyProof.Rows.RuleB_small
import PyProof.Rows.RuleN_abs
import PyProof.Rows.SetFrom
import PyProof.Rows.SortShellK
import PyProof.Rows.SortStr
import PyProof.Rows.SortWalk
import PyProof.Rows.StrRules
import PyProof.Rows.StrTemp
import PyProof.Rows.Top
import PyProof.Rows.TupMore
import PyProof.Rows.Walk
import PyProof.Rules2
import PyProof.Rules3
import PyProof.RulesAs
import PyProof.SeqInW
import PyProof.SetRoads
import PyProof.SliceMore
import PyProof.SliceStr2
import PyProof.StationsW
import PyProof.StrBlock
import PyProof.StrBlock2
import PyProof.StrBlockI
import PyProof.StrBlockL
import PyProof.StrCalls3
import PyProof.StrLawsIn
import PyProof.StrLawsJoin
import PyProof.StrOps2
import PyProof.StrWalks
import PyProof.TableCode
import PyProof.TupleOfSeq
import PyProof.TupleOps
import PyProof.WalkInts
import PyProof.WalksEnum
import PyProof.WalksMore
import PyProof.ZipIter
import PySem.PyData
import PySem.Syntax
import Wide.Seal
import Wide.Well
import PySem.Challenge.RW_uf010037_12
set_option Elab.async false
set_option linter.all false
set_option maxRecDepth 100000
namespace Mine
theorem oN{x y:Int}(hx:0≤x)(hy:0≤y)(h:x.toNat=y.toNat):x=y:=by rw[← Int.toNat_of_nonneg hx,h,Int.toNat_of_nonneg hy]
theorem oO{a:Int}{n:Nat}(h:a < n):(1+a).toNat≤n:=Int.toNat_le.mpr (by rw[Int.add_comm];exact h)
theorem p1{a:Int}(h:0≤a):0≤1+a:=Int.add_nonneg (by decide) h
theorem ax0{a b c:Nat}(h:a+16*b+300 < c):a+70 < c:=Nat.lt_of_le_of_lt (Nat.add_le_add (Nat.le_add_right a (16*b)) (by decide:70≤300)) h
theorem ax2{a b:Nat}(h:a+70 < b):a < b:=Nat.lt_of_le_of_lt (Nat.le_add_right _ _) h
theorem ax4{a b:Nat}(h:¬a < b):b≤a:=Nat.le_of_not_lt h
theorem ax5{a b c:Nat}(h:a=b)(h1:¬c < a):b≤c:=h▸Nat.le_of_not_lt h1
theorem ax6:0≤300:=by decide
theorem ax7{a:Nat}(h:a < 63):a / 30+1≤300:=Nat.succ_le_succ (Nat.le_trans (Nat.div_le_self _ _) (Nat.le_trans (Nat.le_of_lt h) (by decide)))
theorem ax8{a:Nat}(h:a≤300):¬a > 300:=Nat.not_lt.mpr h
theorem ax9{a:Nat}(h:a≤1024):a≤16777216:=Nat.le_trans h (by decide)
theorem Ck{a b c:Nat}:a+b+c*b=a+(c*b+b):=by first | lia | omega
theorem Cl{a:Int}(h:a≤1024):a.toNat≤1024:=Int.toNat_le.mpr h
theorem Cm{b:Nat}{a:Int}(h:a.toNat*b≤1024*1024):a.toNat*b≤16777216:=Nat.le_trans h (by decide)
theorem Cn{c:Nat}{a b:Int}(h:0≤a∧a≤1000∧b.natAbs < c):a≤1000000:=Int.le_trans h.2.1 (by decide)
theorem Co{a:Int}(h:1≤a):0 < a:=h
theorem Cp{a:Int}(h:1≤a):0≤a:=Int.le_trans (by decide) h
theorem Cq{a:Int}(h:¬a < 1):1≤a:=Int.not_lt.mp h
theorem Cr{a:Nat}{b c:Int}(h:(↑a:Int)≤(b - 1) / c):¬(↑a:Int) > (b - 1) / c:=Int.not_lt.mpr h
theorem Cs{b:Nat}{a:Int}(h:-100≤a∧a≤1024∧b≤1024):a.toNat≤1024:=Int.toNat_le.mpr h.2.1
theorem Ct{a b c:Nat}:min (a - b) (c - b)≤c:=Nat.le_trans (Nat.min_le_right _ _) (Nat.sub_le _ _)
theorem uH{a b:Nat}(h:a - b=0)(h1:b≤a):b=a:=Nat.le_antisymm h1 (Nat.le_of_sub_eq_zero h)
theorem uI{a b c:Nat}(h:a - b=c+1):b < a:=Nat.lt_of_sub_pos (by rw[h];exact Nat.succ_pos c)
theorem Cu{a b c:Nat}(h:a≤b):min c a≤b:=Nat.le_trans (Nat.min_le_right _ _) h
theorem uJ{a b c:Nat}(h:a - b=c+1):a - (b+1)=c:=congrArg Nat.pred h
theorem Cv{a b:Nat}:min a b≤b:=Nat.min_le_right _ _
theorem Cw:0 < 4096:=by decide
theorem uK{a:Nat}(h:a < 64):a+1 < 4096:=Nat.lt_of_le_of_lt h (by decide)
theorem Cx{a:Nat}(h:a≤3):a < 30:=Nat.lt_of_le_of_lt h (by decide)
theorem uL{b:Nat}{a:Int}:a+1+(↑b:Int)=a+((↑b:Int)+1):=by rw[Int.add_assoc,Int.add_comm 1]
theorem Cy{a:Int}(h:-10000≤a):-10000≤a+(1 - 1):=by rw[Int.sub_self,Int.add_zero];exact h
theorem Cz{a:Int}(h:a≤4096):a+(1 - 1)≤10000:=by rw[Int.sub_self,Int.add_zero];exact Int.le_trans h (by decide)
theorem C0{a:Int}(h:a≤4096):a.toNat≤16777216:=Int.toNat_le.mpr (Int.le_trans h (by decide))
theorem C1{a:Int}(h:-4096≤a∧a≤4096):-10000≤a:=Int.le_trans (by decide) h.1
theorem uM{a b c:Nat}(h:a+b=c)(h1:¬a=c):a < c:=Nat.lt_of_le_of_ne (h▸Nat.le_add_right a b) h1
theorem oP{a b c:Nat}(h:a+b=c)(h1:¬a=c):b - 1 < b:=by
 cases b with
 |zero=>exact absurd h h1
 |succ b=>exact Nat.lt_succ_self b
theorem oQ{a b c:Nat}(h:a+b=c)(h1:¬a=c):a+1+(b - 1)=c:=by
 cases b with
 |zero=>exact absurd h h1
 |succ b=>exact(Nat.add_right_comm a 1 b).trans h
theorem C2{a b:Nat}(h:a≤b):a≤b+1:=Nat.le_succ_of_le h
theorem C3{a b c d e f:Nat}(h:a≤b)(h1:c+d=a)(h2:e≤c)(h3:f=e):f≤b:=by rw[h3];exact Nat.le_trans h2 (Nat.le_trans (Nat.le_trans (Nat.le_add_right c d) (Nat.le_of_eq h1)) h)
theorem C4{a b:Nat}(h:a≤b):a≤b:=h
theorem C5{a b c d e:Nat}(h:a+b < 4096)(h1:c=a)(h2:d=b)(h3:e=16777216):c+d≤e:=by rw[h1,h2,h3];exact Nat.le_trans (Nat.le_of_lt h) (by decide)
theorem C6{a b:Nat}(h:(↑a:Int) < (↑b:Int)):a < b:=Int.ofNat_lt.mp h
theorem C7{a b c d e:Nat}(h:a < b)(h1:c=a)(h2:d≤c+1)(h3:b=e):d≤e:=by rw[← h3];exact Nat.le_trans h2 (by rw[h1];exact h)
theorem C8{b c:Nat}{a:Int}(h:0≤a∧a < (↑b:Int))(h1:c=b):a < (↑c:Int):=by rw[h1];exact h.2
theorem C9{a:Nat}(h:a < 100):a+1≤16777216+1:=Nat.succ_le_succ (Nat.le_trans (Nat.le_of_lt h) (by decide))
theorem Da{a b c:Nat}(h:a=b)(h1:c < a):c < b:=h▸h1
theorem Db{a b:Nat}(h:a+(b+1) < 100):a < 100:=Nat.lt_of_le_of_lt (Nat.le_add_right _ _) h
theorem Dc{a b:Nat}(h:a+(b+1) < 100):a+1+b < 100:=(Nat.add_right_comm a 1 b).symm▸h
theorem Dd{a:Nat}(h:a < 50):a < 100:=Nat.lt_trans h (by decide)
theorem De{a b c:Nat}(h:a=b)(h1:a < 50)(h2:c=16777216):b≤c:=by rw[← h,h2];exact Nat.le_trans (Nat.le_of_lt h1) (by decide)
theorem Df{a b:Nat}(h:a=1)(h1:b=16777216):a≤b:=by rw[h,h1];decide
theorem Dg{a:Nat}(h:1 < a):0 < a:=Nat.lt_trans Nat.zero_lt_one h
theorem Dh{a b c:Nat}(h:a+b+1 < c):a+1 < c:=Nat.lt_of_le_of_lt (Nat.succ_le_succ (Nat.le_add_right _ _)) h
theorem Di{a b c:Nat}(h:a+(b+1)+1 < c):a+1+b+1 < c:=by rw[Nat.add_right_comm a 1 b];exact h
theorem Dj{a b c:Nat}(h:a+16*(b+1)+300 < c):a+3+16*b+300 < c:=by rw[Nat.add_right_comm a 3];exact Nat.lt_of_le_of_lt (by rw[Nat.mul_succ,← Nat.add_assoc];exact Nat.add_le_add_right (Nat.add_le_add_left (by decide) _) 300) h
theorem Dk{a b c:Nat}(h:a+(b+1)+1 < c):a < c:=Nat.lt_of_le_of_lt (Nat.le_trans (Nat.le_add_right _ _) (Nat.le_add_right _ _)) h
theorem Dl{a b c:Nat}(h:a≤63)(h1:b=a)(h2:c=16777216):b≤c:=by rw[h1,h2];exact Nat.le_trans h (by decide)
theorem Dm{a b c:Nat}(h:a≤400)(h1:b+400+1 < c):b+a+1 < c:=Nat.lt_of_le_of_lt (Nat.succ_le_succ (Nat.add_le_add_left h b)) h1
theorem Dn{a b c:Nat}(h:a≤400)(h1:b+16*400+300 < c):b+16*a+300 < c:=Nat.lt_of_le_of_lt (Nat.add_le_add_right (Nat.add_le_add_left (Nat.mul_le_mul_left 16 h) b) 300) h1
theorem Do{a b:Nat}(h:a≤b - 1)(h1:0 < b):a+1≤b:=Nat.le_trans (Nat.succ_le_succ h) (Nat.le_of_eq (Nat.sub_add_cancel h1))
theorem uN{a:Nat}(h:1≤a):1≤(↑a:Int):=Int.ofNat_le.mpr h
theorem Dp{a:Nat}(h:a≤8):(↑a:Int)≤8:=Int.ofNat_le.mpr h
theorem Dq{a b:Nat}(h:14 < a)(h1:b≤14):b < a:=Nat.lt_of_le_of_lt h1 h
theorem Uk{a b:Nat}(h:a+1+1≤b+1):a+1≤b:=Nat.le_of_succ_le_succ h
theorem Dr{a:Nat}(h:a≤6):(↑a:Int)≤6:=Int.ofNat_le.mpr h
theorem uO{a:Nat}(h:a≤6):a < 64:=Nat.lt_of_le_of_lt h (by decide)
theorem Ds{a b:Nat}(h:1≤a)(h1:b=a):1≤b:=h1▸h
theorem Dt{a b:Nat}(h:a≤6)(h1:b=a):b≤6:=h1▸h
theorem Du{a b:Nat}(h:a≤6)(h1:b=a):b < 64:=h1▸Nat.lt_of_le_of_lt h (by decide)
theorem Dv{a b c:Nat}(h:a=b)(h1:c=b):a=c:=h.trans h1.symm
theorem Dw{a b c:Nat}(h:a≤b)(h1:c≤b)(h2:b=14):a+c < 4096:=by rw[h2] at h h1;exact Nat.lt_of_le_of_lt (Nat.add_le_add h h1) (by decide)
theorem Ul{a b:Nat}(h:a < 1000)(h1:b=16777216):a+1≤b:=by rw[h1];exact Nat.le_trans h (by decide)
theorem Um{a b c d:Nat}(h:2*(a+1)+(b+1)+c+8≤d+4):2*a+b+c+8≤d+2:=by
 have e:2*(a+1)+(b+1)+c+8=2*a+b+c+11:=by rw[Nat.mul_succ,Nat.add_add_add_comm,Nat.add_right_comm (2*a+b) (2+1)]
 rw[e] at h;exact Nat.le_of_add_le_add_right (b:=2) (Nat.le_trans (Nat.add_le_add_left (by decide:10≤11) _) h)
theorem Un{a b:Nat}(h:a+(b+1)≤900):a+1+b≤900:=(Nat.add_right_comm a 1 b).symm▸h
theorem Uo{a b c d e f:Nat}(h:2*(max a b+1)+c+(d+e)+8≤f+1):2*a+4≤f:=Nat.le_of_succ_le_succ (Nat.le_trans (Nat.add_le_add (Nat.le_trans (Nat.le_trans (Nat.mul_le_mul_left 2 (Nat.le_succ_of_le (Nat.le_max_left a b))) (Nat.le_add_right _ _)) (Nat.le_add_right _ _)) (by decide:5≤8)) h)
theorem Up{a b c d e f:Nat}(h:2*(max a b+1)+c+(d+e)+8≤f+1):2*b+c+e+8≤f:=by
 have e:2*(max a b+1)+c+(d+e)+8=2*max a b+c+(d+e)+10:=by rw[Nat.mul_succ,Nat.add_right_comm (2*max a b) 2 c,Nat.add_right_comm _ 2 (d+e)]
 rw[e] at h;exact Nat.le_of_succ_le_succ (Nat.le_trans (Nat.add_le_add (Nat.add_le_add (Nat.add_le_add_right (Nat.mul_le_mul_left 2 (Nat.le_max_right a b)) c) (Nat.le_add_left _ d)) (by decide:9≤10)) h)
theorem Uq{a b c:Nat}(h:a+(max b c+1)≤900):a+1+c≤900:=Nat.le_trans (by rw[Nat.add_right_comm];exact Nat.succ_le_succ (Nat.add_le_add_left (Nat.le_max_right b c) a)) h
theorem Ur{a b c:Nat}:a+b≤a+(c+b):=Nat.add_le_add_left (Nat.le_add_left _ _) _
theorem Us{a b c d e f:Nat}(h:2*(max a b+1)+c+(d+e)+8≤f+1):2*a+(c+e)+d+8≤f:=by
 have e:2*(max a b+1)+c+(d+e)+8=2*max a b+(c+e)+d+10:=by rw[Nat.mul_succ,Nat.add_right_comm (2*max a b) 2 c,Nat.add_right_comm _ 2 (d+e),Nat.add_comm d e,← Nat.add_assoc,Nat.add_assoc (2*max a b) c e]
 rw[e] at h;exact Nat.le_of_succ_le_succ (Nat.le_trans (Nat.add_le_add (Nat.add_le_add_right (Nat.add_le_add_right (Nat.mul_le_mul_left 2 (Nat.le_max_left a b)) _) d) (by decide:9≤10)) h)
theorem Ut{a b c:Nat}(h:a+(max b c+1)≤900):a+1+b≤900:=Nat.le_trans (by rw[Nat.add_right_comm];exact Nat.succ_le_succ (Nat.add_le_add_left (Nat.le_max_left b c) a)) h
theorem Uu{a b:Nat}(h:a+(b+1)≤900):a+b+1≤900:=h
theorem Uv{a b:Nat}:a≤a+b:=Nat.le_add_right _ _
theorem Uw{a b c d e f:Nat}(h:2*max a b+c+max d e+8≤f):2*a+c+d+8≤f:=Nat.le_trans (Nat.add_le_add_right (Nat.add_le_add (Nat.add_le_add_right (Nat.mul_le_mul_left 2 (Nat.le_max_left a b)) c) (Nat.le_max_left d e)) 8) h
theorem Ux{a b c:Nat}(h:a+max b c+1≤900):a+1+b≤900:=Nat.le_trans (by rw[Nat.add_right_comm];exact Nat.add_le_add_right (Nat.add_le_add_left (Nat.le_max_left b c) a) 1) h
theorem Uy{a b c d:Nat}(h:a+max b c≤d):a+b≤d:=Nat.le_trans (Nat.add_le_add_left (Nat.le_max_left b c) a) h
theorem Uz{a b c d e f:Nat}(h:2*max a b+c+max d e+8≤f):2*b+c+e+8≤f:=Nat.le_trans (Nat.add_le_add_right (Nat.add_le_add (Nat.add_le_add_right (Nat.mul_le_mul_left 2 (Nat.le_max_right a b)) c) (Nat.le_max_right d e)) 8) h
theorem U0{a b c:Nat}(h:a+max b c+1≤900):a+c+1≤900:=Nat.le_trans (Nat.add_le_add_right (Nat.add_le_add_left (Nat.le_max_right b c) a) 1) h
theorem U1{a b c d:Nat}(h:a+max b c≤d):a+c≤d:=Nat.le_trans (Nat.add_le_add_left (Nat.le_max_right b c) a) h
theorem U2{a b c d:Nat}(h:3*a+b+c+10≤d+3):2*a+4≤d+2:=Nat.le_of_succ_le_succ (show 2*a+5≤d+3 from Nat.le_trans (Nat.add_le_add (Nat.le_trans (Nat.mul_le_mul_right a (by decide:2≤3)) (Nat.le_trans (Nat.le_add_right _ b) (Nat.le_add_right _ c))) (by decide:5≤10)) h)
theorem U3{a b c d:Nat}(h:3*a+b+c+10≤d+3):2*a+b+c+8≤d+2:=Nat.le_of_succ_le_succ (show 2*a+b+c+9≤d+3 from Nat.le_trans (Nat.add_le_add (Nat.add_le_add_right (Nat.add_le_add_right (Nat.mul_le_mul_right a (by decide:2≤3)) b) c) (by decide:9≤10)) h)
theorem U4{a b c d:Nat}(h:3*a+b+c+10≤d+3):3*a+3≤d+1:=Nat.le_of_add_le_add_right (b:=2) (show 3*a+5≤d+3 from Nat.le_trans (Nat.add_le_add (Nat.le_trans (Nat.le_add_right (3*a) b) (Nat.le_add_right _ c)) (by decide:5≤10)) h)
theorem U5{a b c d:Nat}(h:3*a+b+c+10≤d+3):b+1≤d:=Nat.le_of_add_le_add_right (b:=3) (show b+4≤d+3 from Nat.le_trans (Nat.add_le_add (Nat.le_trans (Nat.le_add_left b (3*a)) (Nat.le_add_right _ c)) (by decide:4≤10)) h)
theorem U6{a b c d:Nat}(h:3*a+b+c+10≤d+3):b+c≤d+1:=Nat.le_of_add_le_add_right (Nat.le_trans (Nat.add_le_add (Nat.add_le_add_right (Nat.le_add_left b _) c) (by decide:2≤10)) h)
theorem Dx{a b c d:Nat}(h:a≤b)(h1:c≤b)(h2:b=14)(h3:d=16777216):a+c≤d:=by rw[h3];rw[h2] at h h1;exact Nat.le_trans (Nat.add_le_add h h1) (by decide)
theorem Dy{a b c:Nat}(h:a+b+3≤c+2):b≤c:=Nat.le_of_add_le_add_right (Nat.le_trans (Nat.add_le_add (Nat.le_add_left b a) (by decide:2≤3)) h)
theorem kY{a b c:Nat}(h:a+(b+1)+3≤c+2):b≤c:=Nat.le_of_add_le_add_right (Nat.le_trans (Nat.add_le_add (Nat.le_trans (Nat.le_succ b) (Nat.le_add_left _ a)) (by decide:2≤3)) h)
theorem Dz{a b c:Nat}(h:a≤b)(h1:b < 1000)(h2:c=16777216):a+1≤c:=by rw[h2];exact Nat.le_trans (Nat.succ_le_of_lt (Nat.lt_of_le_of_lt h h1)) (by decide)
theorem D0{a b:Nat}(h:a≤b)(h1:b < 1000):a+1 < 4096:=Nat.lt_of_le_of_lt (Nat.succ_le_of_lt (Nat.lt_of_le_of_lt h h1)) (by decide)
theorem D1{a b c:Nat}(h:a+(b+1)+3≤c+3):b≤c:=Nat.le_of_add_le_add_right (Nat.le_trans (Nat.add_le_add_right (Nat.le_trans (Nat.le_succ b) (Nat.le_add_left _ a)) 3) h)
theorem uP{a b c:Nat}(h:a+1+(b+1)+3≤c+2):a+b+3≤c+1:=Nat.le_of_succ_le_succ (show a+b+4≤c+2 from Nat.le_trans (by rw[Nat.add_right_comm a 1 (b+1)];exact Nat.add_le_add_left (by decide:4≤5) (a+b)) h)
theorem D2{a b c d:Nat}(h:max a b+1+c+3≤d+1):a+c+3≤d:=Nat.le_of_succ_le_succ (Nat.le_trans (Nat.add_le_add_right (Nat.add_le_add_right (Nat.le_max_left a b) c) 4) ((Nat.add_right_comm (max a b) 1 c)▸h:max a b+c+1+3≤d+1))
theorem D3{a b c d:Nat}(h:max a b+1+c+3≤d+1):b+c+3≤d:=Nat.le_of_succ_le_succ (Nat.le_trans (Nat.add_le_add_right (Nat.add_le_add_right (Nat.le_max_right a b) c) 4) ((Nat.add_right_comm (max a b) 1 c)▸h:max a b+c+1+3≤d+1))
theorem D4{a b c d:Nat}(h:max a b+c+3≤d):b+c+3≤d:=Nat.le_trans (Nat.add_le_add_right (Nat.add_le_add_right (Nat.le_max_right a b) c) 3) h
theorem D5{a b c d:Nat}(h:max a b+c+3≤d):a+c+3≤d:=Nat.le_trans (Nat.add_le_add_right (Nat.add_le_add_right (Nat.le_max_left a b) c) 3) h
theorem oR{a:Int}(h:0 < a):0≤a:=Int.le_of_lt h
theorem D6{a:Int}(h:0 < a):a≠0:=fun e=>Int.lt_irrefl 0 (e▸h)
theorem D7{b:Nat}{a:Int}(h:a.toNat < b):a < (↑b:Int):=Int.lt_of_le_of_lt (Int.self_le_toNat a) (Int.ofNat_lt.mpr h)
theorem D8{b:Nat}{a:Int}(h:0≤a)(h1:a < (↑b:Int)):a.toNat < b:=(Int.toNat_lt h).mpr h1
theorem D9{a:Int}(h:0≤a):0≤2+a:=Int.add_nonneg (by decide) h
theorem Ea{a:Int}(h:0≤a∧a < 2):a=0∨a=1:=by first | lia | omega
theorem Eb{a b:Nat}:a+1+b=a+(b+1):=Nat.add_right_comm a 1 b
theorem Ec{a:Nat}(h:a≤1000):a≤16777216:=Nat.le_trans h (by decide)
theorem Ed{a:Int}(h:0≤a∧a < 26):a < (↑26:Int):=h.2
theorem kZ{a:Int}(h:0≤a∧a < 26):a.toNat < 26:=(Int.toNat_lt h.1).mpr h.2
theorem Ee{a b:Int}(h:0≤a∧a < 26)(h1:0≤b∧b < 26)(h2:a.toNat=b.toNat):a=b:=oN h.1 h1.1 h2
theorem Ef{a:Int}(h:0≤a∧a < 8):0 < 1+a:=Int.lt_of_lt_of_le Int.zero_lt_one (Int.le_add_of_nonneg_right h.1)
theorem uQ{a:Int}(h:0≤a∧a < 8):0≤1+a:=Int.add_nonneg (by decide) h.1
theorem uR{a:Int}:min (1+a).toNat 8≤1000:=Nat.le_trans (Nat.min_le_right _ _) (by decide)
theorem Eg{a:Int}(h:0≤a∧a < 8):1+a≠0:=fun e=>absurd (Int.le_add_of_nonneg_right h.1:(1:Int)≤1+a) (by rw[e];decide)
theorem Eh{a b:Int}(h:0≤a∧a < 8)(h1:0≤b∧b < 1+a):0≤b∧b < 8:=⟨h1.1,Int.lt_of_lt_of_le h1.2 (by rw[Int.add_comm];exact h.2)⟩
theorem Ei{a b c:Int}(h:0≤a∧a < 26)(h1:0≤b∧b < 26)(h2:(c+a) % 26=(c+b) % 26):a=b:=by
 have:=Int.emod_add_cancel_left.mp h2
 rwa [Int.emod_eq_of_lt h.1 h.2,Int.emod_eq_of_lt h1.1 h1.2] at this
theorem Ej{a:Int}(h:0≤a∧a < 14):0≤a / 8∧a / 8 < 26:=⟨Int.ediv_nonneg h.1 (by decide),Int.lt_of_le_of_lt (Int.ediv_le_self 8 h.1) (Int.lt_trans h.2 (by decide))⟩
theorem Ek{a b:Int}(h:0≤a∧a < 8)(h1:0≤b∧b < 8)(h2:min (1+a).toNat 8=min (1+b).toNat 8):a=b:=by
 rw[Nat.min_eq_left (oO h.2),Nat.min_eq_left (oO h1.2)] at h2;exact Int.add_left_cancel (oN (p1 h.1) (p1 h1.1) h2)
theorem El{a:Int}(h:0≤a∧a < 8):0 < (1+a).toNat:=(Int.lt_toNat).mpr (Int.lt_of_lt_of_le Int.zero_lt_one (Int.le_add_of_nonneg_right h.1))
theorem Em{a b:Int}(h:0≤a∧a < 8)(h1:0≤b∧b < 1+a):b.toNat < 8∧b.toNat < (1+a).toNat:=⟨(Int.toNat_lt h1.1).mpr (Int.lt_of_lt_of_le h1.2 (by rw[Int.add_comm];exact h.2)),(Int.toNat_lt h1.1).mpr (Int.lt_of_lt_of_le h1.2 (Int.self_le_toNat _))⟩
theorem En{a:Int}(h:0≤a∧a < 14):a.toNat < 14:=(Int.toNat_lt h.1).mpr h.2
theorem Eo{a:Int}(h:0≤a∧a < 4):0≤9+a∧9+a < 14:=⟨Int.add_nonneg (by decide) h.1,Int.lt_of_lt_of_le (Int.add_lt_add_left h.2 9) (by decide)⟩
theorem Ep{a:Int}(h:0≤a∧a < 3):a=0∨a=1∨a=2:=by first | lia | omega
theorem uS{a:Nat}(h:a < 5):a=0∨a=1∨a=2∨a=3∨a=4:=by first | lia | omega
theorem Er{a:Nat}(h:a < 5):0≤(↑a:Int)∧(↑a:Int) < 14:=⟨Int.natCast_nonneg a,Int.lt_trans (Int.ofNat_lt.mpr h) (by decide)⟩
theorem uT{a b:Nat}(h:a+1≤b):a≤b:=Nat.le_of_succ_le h
theorem oS{a:Nat}(h:0 < a):0 < (↑a:Int):=Int.ofNat_lt.mpr h
theorem Es{b:Nat}{a:Int}(h:0≤a∧a < (↑b:Int)):a.toNat < b:=(Int.toNat_lt h.1).mpr h.2
theorem uU{a:Nat}(h:0 < a):(↑a:Int)≠0:=fun e=>Nat.ne_of_gt h (Int.ofNat.inj e)
theorem uV{a:Int}(h:0≤a∧a < 4):0≤5+a∧5+a < 14:=⟨Int.add_nonneg (by decide) h.1,Int.lt_of_lt_of_le (Int.add_lt_add_left h.2 5) (by decide)⟩
theorem Et{c:Nat}{a b:Int}(h:0≤a)(h1:a < b)(h2:c=b.toNat - a.toNat):1≤c:=by rw[h2];exact Nat.sub_pos_of_lt ((Int.toNat_lt h).mpr (Int.lt_of_lt_of_le h1 (Int.self_le_toNat b)))
theorem Eu{c:Nat}{a b:Int}(h:a≤b+6)(h1:c=a.toNat - b.toNat):c≤6:=by
 rw[h1];exact Nat.sub_le_of_le_add (Int.toNat_le.mpr (Int.le_trans h (by rw[Int.natCast_add,Int.add_comm];exact Int.add_le_add_left (Int.self_le_toNat b) 6)))
theorem U7{a b c:Nat}(h:a≤0)(h1:b+1+4≤c+2):a+(b+1)+3≤c+2:=Nat.le_trans (Nat.add_le_add_right (Nat.add_le_add_right h (b+1)) 3) (by rw[Nat.zero_add];exact Nat.le_trans (Nat.le_succ _) h1)
theorem U8{a b:Nat}(h:a≤0)(h1:b≤0):max a b+1≤1:=Nat.succ_le_succ (Nat.max_le.mpr ⟨h,h1⟩)
theorem U9{a b:Nat}(h:a≤1)(h1:b≤1):a+b≤2:=Nat.add_le_add h h1
theorem Va{a:Nat}(h:a≤0):a≤1:=Nat.le_succ_of_le h
theorem Vb{a:Nat}(h:a≤1):a≤2:=Nat.le_succ_of_le h
theorem Vc{a b c:Nat}(h:a+1+4≤b+2)(h1:c≤1):c+(a+1)+3≤b+2:=Nat.le_trans (Nat.add_le_add_right (Nat.add_le_add_right h1 (a+1)) 3) (by rw[Nat.add_comm 1];exact Nat.le_trans (Nat.le_refl _) h)
theorem Vd{a:Nat}(h:a≤0):a+1≤1:=Nat.succ_le_succ h
theorem Ve{a:Nat}(h:a≤0):max a 0+1≤1:=by rw[Nat.max_eq_left (Nat.zero_le a)];exact Nat.succ_le_succ h
theorem Vf{a:Nat}(h:a≤1):max a 0≤2:=by rw[Nat.max_eq_left (Nat.zero_le a)];exact Nat.le_succ_of_le h
theorem Ev{b:Nat}{a:Int}:a+1+(↑b:Int)=a+(↑(b+1):Int):=by rw[Int.natCast_add,Int.add_assoc,Int.natCast_one,Int.add_comm 1]
theorem Ew{b:Nat}{a c:Int}(h:a=(↑b:Int))(h1:0≤c∧c < a):c.toNat < b:=(Int.toNat_lt h1.1).mpr (h▸h1.2)
theorem Ex{b c:Nat}{a:Int}:a+(↑b:Int) - (a+(↑c:Int))=(↑b:Int) - (↑c:Int):=by first | lia | omega
theorem Ey{a b:Nat}(h:a < b):0≤(↑b:Int) - (↑a:Int):=Int.sub_nonneg.mpr (Int.ofNat_le.mpr (Nat.le_of_lt h))
theorem Ez{a c:Nat}{b:Int}(h:(↑a:Int) < b):(↑a:Int) - (↑c:Int) < b:=Int.lt_of_le_of_lt (Int.sub_le_self _ (Int.natCast_nonneg c)) h
theorem E0{a c:Nat}{b:Int}(h:(↑a:Int)≤b)(h1:c < a):(↑c:Int) < b:=Int.lt_of_lt_of_le (Int.ofNat_lt.mpr h1) h
theorem E1{a b c:Int}(h:a.toNat=b.toNat)(h1:0≤a∧a < c)(h2:0≤b∧b < c):a=b:=oN h1.1 h2.1 h
theorem uW{a b:Nat}(h:a - b > 0):1≤a - b:=h
theorem uX{a b:Nat}(h:¬a < b)(h1:a - b=0):a=b:=Nat.le_antisymm (Nat.le_of_sub_eq_zero h1) (Nat.le_of_not_lt h)
theorem E2{a b c:Nat}(h:a≤6)(h1:b < a)(h2:c=16777216):b < c:=by rw[h2];exact Nat.lt_of_lt_of_le h1 (Nat.le_trans h (by decide))
theorem E3{a b:Nat}(h:a≤6)(h1:b=a):(↑b:Int)≤14:=h1▸Int.le_trans (Int.ofNat_le.mpr h) (by decide)
theorem E4{a b c:Nat}(h:a≤b)(h1:c=a):(↑c:Int)≤(↑b:Int):=h1▸Int.ofNat_le.mpr h
theorem Vg{a b:Nat}(h:a+1+4≤b):a+4≤b:=Nat.le_trans (Nat.le_succ _) (Nat.le_trans (Nat.le_of_eq (Nat.add_right_comm a 4 1)) h)
theorem E5{a:Int}(h:0≤a∧a < 2):0≤2+a∧2+a < 14:=⟨Int.add_nonneg (by decide) h.1,Int.lt_trans (Int.add_lt_add_left h.2 2) (by decide)⟩
theorem E6{a:Int}(h:0≤a∧a < 2):0≤3 - a∧3 - a < 14:=⟨Int.sub_nonneg.mpr (Int.le_trans (Int.le_of_lt h.2) (by decide)),Int.lt_of_le_of_lt (Int.sub_le_self 3 h.1) (by decide)⟩
theorem E7{a:Int}:(2+a).toNat≠(3 - a).toNat:=by first | lia | omega
theorem E8{a:Int}(h:0≤a∧a < 4):0≤4+a:=Int.add_nonneg (by decide) h.1
theorem E9{a b:Int}(h:0≤a∧a < 6):4+b < 4+b+1+a:=Int.lt_add_of_pos_right _ (Int.lt_of_lt_of_le Int.zero_lt_one (Int.le_add_of_nonneg_right h.1)) |> fun z=>by rw[Int.add_assoc (4+b)];exact z
theorem Fa{a b:Int}(h:0≤a∧a < 6):4+b+1+a≤4+b+6:=by rw[Int.add_assoc (4+b),Int.add_comm 1 a];exact Int.add_le_add_left h.2 _
theorem Fb{a b:Int}(h:0≤a∧a < 4)(h1:0≤b∧b < 6):4+a+1+b≤14:=by
 have e1:a≤3:=Int.le_of_lt_add_one h.2;have e2:b≤5:=Int.le_of_lt_add_one h1.2;exact Int.le_trans (Int.add_le_add (Int.add_le_add_right (Int.add_le_add_left e1 4) 1) e2) (by decide)
theorem Fc{a:Int}(h:0≤a∧a < 2):0≤5+2*a:=Int.add_nonneg (by decide) (Int.mul_nonneg (by decide) h.1)
theorem Fd{a:Int}:5+2*a < 5+2*a+2:=by first | lia | omega
theorem Fe{a:Int}:5+2*a+2≤5+2*a+6:=by first | lia | omega
theorem Ff{a:Int}(h:0≤a∧a < 2):5+2*a+2≤14:=Int.le_trans (Int.add_le_add_right (Int.add_le_add_left (Int.mul_le_mul_of_nonneg_left (Int.le_of_lt h.2) (by decide)) 5) 2) (by decide)
theorem Vh{a b:Nat}(h:a+1+4≤b):a+4≤b+1:=Nat.le_trans (Nat.le_succ _) (Nat.le_succ_of_le (Nat.le_trans (Nat.le_of_eq (Nat.add_right_comm a 4 1)) h))
theorem Vi{a b c:Nat}(h:a+4≤b)(h1:c≤2):c+a+3≤b+3:=Nat.le_trans (Nat.add_le_add_right (Nat.add_le_add_right h1 a) 3) (by rw[Nat.add_comm 2 a];exact Nat.add_le_add_right (Nat.le_trans (Nat.add_le_add_left (by decide:2≤4) a) h) 3)
theorem Vj{a b:Nat}:a.succ+b≤a+(b+1):=Nat.le_of_eq (Nat.succ_add a b)
theorem Vk{a b:Nat}:a+2+2*b≤a+2*(b+1):=by first | lia | omega
theorem Vl{a:Nat}:2+a+1≤2+(a+1):=Nat.le_refl _
theorem Vm{a:Nat}:2+(2+2*a)≤2+2*(a+1):=by first | lia | omega
theorem Fg{a:Nat}:-(↑(a+1):Int)≤-1:=Int.neg_le_neg (Int.ofNat_le.mpr (Nat.succ_pos a))
theorem Fh{a:Nat}:(-1+(↑(a+1):Int)).toNat=a:=by rw[Int.natCast_add,Int.add_comm,Int.natCast_one,Int.add_neg_cancel_right,Int.toNat_natCast]
theorem Fi{a:Nat}:1≤(↑(a+1):Int):=Int.ofNat_le.mpr (Nat.succ_pos a)
theorem Fj{a:Nat}:(max 0 (min (-1+((↑a:Int)+1)) ((↑a:Int)+1))).toNat=a:=by rw[(Int.add_comm _ _).trans (Int.add_neg_cancel_right (↑a:Int) 1),Int.min_eq_left (Int.le_add_one (Int.le_refl _)),Int.max_eq_right (Int.natCast_nonneg a),Int.toNat_natCast]
theorem Fk{a:Int}(h:0≤a∧a < 4):1≤(1+a).toNat:=(Int.lt_toNat).mpr (Int.lt_of_lt_of_le Int.zero_lt_one (Int.le_add_of_nonneg_right h.1))
theorem Fl{a:Int}(h:0≤a∧a < 4):(1+a).toNat≤4:=oO h.2
theorem Fm{a:Int}(h:0≤a∧a < 4):-4096≤1+a∧1+a≤4096:=⟨Int.le_trans (by decide) (Int.add_nonneg (by decide:(0:Int)≤1) h.1),Int.le_trans (Int.add_le_add_left (Int.le_of_lt h.2) 1) (by decide)⟩
theorem Vn{a b c d:Nat}(h:a+4≤b)(h1:c≤2∧d≤2):c+a+3≤b+4:=Nat.le_trans (Nat.add_le_add_right (Nat.add_le_add_right h1.1 a) 3) (by rw[Nat.add_comm 2 a];exact Nat.add_le_add_right (Nat.le_trans (Nat.add_le_add_left (by decide:1≤4) a) h) 4)
theorem Fn{a b c:Nat}(h:a≤4)(h1:b < a)(h2:c=16777216):b < c:=by rw[h2];exact Nat.lt_of_lt_of_le h1 (Nat.le_trans h (by decide))
theorem Fo{a b:Nat}(h:a≤4)(h1:b+1=a):b≤3:=by rw[← h1] at h;exact Nat.le_of_succ_le_succ h
theorem Fp{a b:Nat}(h:a≤3)(h1:a+1=b+1):b≤3:=Nat.succ.inj h1▸h
theorem uY{a:Nat}(h:a≤3):2+a≤5:=Nat.add_le_add_left h 2
theorem Vo{a:Nat}(h:a≤3):2+2*a≤8:=Nat.add_le_add_left (Nat.mul_le_mul_left 2 h) 2
theorem Vp{a b:Nat}(h:a+3≤b+2):a≤b+1:=Nat.le_trans (Nat.le_succ a) (Nat.le_trans (Nat.le_of_succ_le_succ (Nat.le_of_succ_le_succ h)) (Nat.le_succ b))
theorem Vq{a:Nat}:0+1≤a+1:=Nat.succ_le_succ (Nat.zero_le a)
theorem Vr{a b:Nat}(h:a+1+3≤b+2):a≤b:=Nat.le_of_add_le_add_right (b:=2) (Nat.le_trans (Nat.add_le_add_left (by decide:2≤4) a) h)
theorem Vs{a b:Nat}(h:a+1+3≤b+2):a+3≤b+1:=Nat.le_of_succ_le_succ (Nat.le_trans (Nat.le_refl _) h)
theorem Vt:5+4≤394:=by decide
theorem Vu:5+3≤398:=by decide
theorem Vv:5+1+3≤398:=by decide
theorem Vx{a:Nat}(h:a≤5):a≤900:=Nat.le_trans h (by decide)
theorem Vy{a b:Nat}(h:a≤5)(h1:b≤8):3*a+7+b+10≤398:=Nat.le_trans (Nat.add_le_add_right (Nat.add_le_add (Nat.add_le_add_right (Nat.mul_le_mul_left 3 h) 7) h1) 10) (by decide)
theorem Vz:5≤7:=by decide
theorem V0{a b:Nat}(h:a < b)(h1:b≤12):a < 12:=Nat.lt_of_lt_of_le h h1
theorem V1{a b c:Nat}(h:a+b < 4096)(h1:c=16777216):a+b≤c:=by rw[h1];exact Nat.le_trans (Nat.le_of_lt h) (by decide)
theorem V2{a b c d e f g:Nat}(h:a≤b)(h1:c≤d)(h2:e≤f)(h3:g≤f)(h4:f=14)(h5:b≤e)(h6:d=g):a+c < 4096:=by rw[h4] at h2 h3;exact Nat.lt_of_le_of_lt (Nat.add_le_add (Nat.le_trans h (Nat.le_trans h5 h2)) (Nat.le_trans h1 (h6▸h3))) (by decide)
theorem V3{a b c:Nat}(h:a+(b+1)=c):a+1≤c:=Nat.le_trans (Nat.add_le_add_left (Nat.succ_le_succ (Nat.zero_le b)) a) (Nat.le_of_eq h)
theorem V4{a b c d e:Nat}(h:a < 4096)(h1:b≤c)(h2:d≤a+b)(h3:c < 4096)(h4:e=16777216):d < e:=by rw[h4];exact Nat.lt_of_le_of_lt (Nat.le_trans h2 (Nat.add_le_add (Nat.le_of_lt h) (Nat.le_trans h1 (Nat.le_of_lt h3)))) (by decide)
theorem V5{a b c d e f:Nat}(h:a≤b+c)(h1:d≤e)(h2:f≤e)(h3:e=14)(h4:b≤d)(h5:c=f):a < 4096:=by rw[h3] at h1 h2;exact Nat.lt_of_le_of_lt (Nat.le_trans h (Nat.add_le_add (Nat.le_trans h4 h1) (h5▸h2))) (by decide)
theorem V6{a b c d e f:Nat}(h:a≤b)(h1:c≤b)(h2:b=14)(h3:d≤a)(h4:e≤c)(h5:f=16777216):d+e≤f:=by rw[h5];rw[h2] at h h1;exact Nat.le_trans (Nat.add_le_add (Nat.le_trans h3 h) (Nat.le_trans h4 h1)) (by decide)
theorem V7{a b c d:Nat}(h:2*(a+1)+(b+1)+c+8≤d+3):2*a+b+c+8≤d+1:=by first | lia | omega
theorem V8{a b c d e f:Nat}(h:2*(max a b+1)+c+(d+e)+8≤f+1):a+c+3≤f:=Nat.le_of_succ_le_succ (Nat.le_trans (Nat.add_le_add (Nat.le_trans (Nat.add_le_add_right (Nat.le_trans (Nat.le_max_left a b) (Nat.le_trans (Nat.le_succ _) (Nat.le_mul_of_pos_left _ (by decide:0 < 2)))) c) (Nat.le_add_right _ (d+e))) (by decide:4≤8)) h)
theorem V9{a b c d:Nat}(h:a≤9*b)(h1:b≤900)(h2:c≤8)(h3:d=1048576):a+1+(c+1+0)≤d:=by rw[h3];exact Nat.le_trans (Nat.add_le_add (Nat.succ_le_succ (Nat.le_trans h (Nat.mul_le_mul_left 9 h1))) (Nat.succ_le_succ h2)) (by decide)
theorem Wa{a:Nat}(h:a≤5):a+5+3≤399:=Nat.le_trans (Nat.add_le_add_right (Nat.add_le_add_right h 5) 3) (by decide)
theorem Wb{a b:Nat}(h:a≤5)(h1:b≤8):2*a+7+b+8≤399:=Nat.le_trans (Nat.add_le_add_right (Nat.add_le_add (Nat.add_le_add_right (Nat.mul_le_mul_left 2 h) 7) h1) 8) (by decide)
theorem Wc:5+1+1≤398:=by decide
theorem Wd{a:Nat}(h:a≤8):7+a+(7+a)≤397:=Nat.le_trans (Nat.add_le_add (Nat.add_le_add_left h 7) (Nat.add_le_add_left h 7)) (by decide)
theorem We{a b c d:Nat}(h:a < b)(h1:b≤12)(h2:c=a)(h3:d=16777216):c < d:=by rw[h2,h3];exact Nat.lt_of_lt_of_le h (Nat.le_trans h1 (by decide))
end Mine
namespace Mine
open PySem
inductive P(α:Type) where
 |no
 |ok (a:α)
theorem bft{p:Prop}(h:false=true):p:=Bool.noConfusion h
theorem btf{p:Prop}(h:true=false):p:=Bool.noConfusion h
theorem ns{α:Type}{a:α}{p:Prop}(h:none=some a):p:=nomatch h
theorem sn{α:Type}{a:α}{p:Prop}(h:some a=none):p:=nomatch h
theorem si{α:Type}{a b:α}(h:some a=some b):a=b:=Option.some.inj h
theorem pno{α:Type}{a:α}{p:Prop}(h:P.no=.ok a):p:=nomatch h
theorem pi{α:Type}{a b:α}(h:P.ok a=.ok b):a=b:=P.ok.inj h
theorem bT{α:Type}{a:α}{p:Prop}(h:a∈([]:List α)):p:=nomatch h
theorem ocs{α:Type}{p:Prop}(o:Option α)(h:o=none→p)(g:∀ x,o=some x→p):p:=by cases o with | none=>exact h rfl | some x=>exact g x rfl
theorem bcs{p:Prop}(b:Bool)(h:b=false→p)(g:b=true→p):p:=by cases b with | false=>exact h rfl | true=>exact g rfl
theorem pcs{α:Type}{p:Prop}(o:P α)(h:o=.no→p)(g:∀ x,o=.ok x→p):p:=by cases o with | no=>exact h rfl | ok x=>exact g x rfl
noncomputable def P.bind{α β:Type}(x:P α)(f:α→P β):P β :=
 match x with
 | .no=>.no
 | .ok a=>f a
structure X where
 cls:Str
 fields:List (Str×PyData)
inductive V where
 |fz (d:PyData)
 |own (d:PyData)
 |ex (x:X)
abbrev aA:=List (Str×Option V)
noncomputable def aA.get:aA→Str→Option (Option V)
 | [],_=>none
 | (y,v)::r,x=>if x=y then some v else aA.get r x
noncomputable def aA.set:aA→Str→V→aA
 | [],_,_=>[]
 | (y,v)::r,x,u=>if x=y then (y,some u)::r else (y,v)::aA.set r x u
noncomputable def V.clear:V→V
 | .own d=>.fz d
 |v=>v
noncomputable def aA.clear:aA→List Str→aA
 | [],_=>[]
 | (y,v)::r,xs=>(y,if xs.contains y then v.map V.clear else v)::aA.clear r xs
noncomputable def dOf:V→PyData
 | .fz d=>d
 | .own d=>d
 | .ex _=>.none
inductive R(α:Type) where
 |no
 |ok (a:α)
 |exc (x:X)
noncomputable def rb{α β:Type}(r:R α)(k:α→R β):R β :=
 match r with
 | .no=>.no
 | .ok a=>k a
 | .exc x=>.exc x
noncomputable def ofP{α:Type}:P α→R α
 | .no=>.no
 | .ok a=>.ok a
noncomputable def nx{α:Type}:R α→R α
 | .ok a=>.ok a
 |_=>.no
noncomputable def ofO{α:Type}:Option α→P α
 |some a=>.ok a
 |none=>.no
noncomputable def Fq:PyData→P Bool
 | .bool b=>.ok b
 |_=>.no
noncomputable def cG:V→P Bool
 | .fz d=>Fq d
 |_=>.no
noncomputable def aI:Nat:=16777216
noncomputable def mkS(s:Str):P V:=if s.length≤aI then .ok (.fz (.str s)) else .no
noncomputable def jC(x:Str)(n:Int):Str :=
 if n < 1 then Str.empty else if (n==1||x.length==0)=true then x else ⟨(List.replicate n.toNat x.cps).foldl (·++·) #[]⟩
noncomputable def uZ(op:Operator)(x y:Int):P V :=
 match op with
 | .Add=>.ok (.fz (.int (x+y)))
 | .Sub=>.ok (.fz (.int (x - y)))
 | .Mult=>if x.natAbs < 2 ^ 63∨y.natAbs < 2 ^ 63 then .ok (.fz (.int (x*y))) else .no
 | .FloorDiv=>if y≠0∧y.natAbs < 2 ^ 63 then .ok (.fz (.int (x.fdiv y))) else .no
 | .Mod=>if y≠0 then .ok (.fz (.int (x.fmod y))) else .no
 | .Pow=>if 0≤y∧y≤1000∧x.natAbs < 2 ^ 63 then .ok (.fz (.int (x ^ y.toNat))) else .no
 |_=>.no
noncomputable def gU:Operator→Bool
 | .Add=>true
 |_=>false
noncomputable def u0:Operator→Bool
 | .Mult=>true
 |_=>false
noncomputable def Fs(op:Operator)(x:Int):PyData→P V
 | .int y=>uZ op x y
 |_=>.no
noncomputable def Ft(op:Operator)(x:Str):PyData→P V
 | .str y=>if gU op=true∧x.length+y.length≤aI then .ok (.fz (.str (x++y))) else .no
 | .int y=>if u0 op=true∧-100≤y∧y≤1024∧x.length≤1024 then .ok (.fz (.str (jC x y))) else .no
 |_=>.no
noncomputable def jD(op:Operator)(x:List PyData):PyData→P V
 | .list y=>if gU op=true∧x.length+y.length≤aI then .ok (.own (.list (x++y))) else .no
 |_=>.no
noncomputable def aC(op:Operator)(a b:PyData):P V :=
 match a with
 | .int x=>Fs op x b
 | .str x=>Ft op x b
 | .list x=>jD op x b
 |_=>.no
noncomputable def eqI(x:Int):PyData→P Bool
 | .int y=>.ok (x==y)
 |_=>.no
noncomputable def eqS(x:Str):PyData→P Bool
 | .str y=>.ok (x==y)
 |_=>.no
noncomputable def eqB(x:Bool):PyData→P Bool
 | .bool y=>.ok (x==y)
 |_=>.no
noncomputable def strs?:List PyData→Option (List Str)
 | []=>some []
 |d::r=>match d with
  | .str s=>(strs? r).map (s::·)
  |_=>none
noncomputable def gV(x y:List PyData):P Bool :=
 match strs? x with
 |none=>.no
 |some a=>match strs? y with
  |none=>.no
  |some b=>.ok (a==b)
noncomputable def eqL(x:List PyData):PyData→P Bool
 | .list y=>if x.length=y.length then gV x y else .ok false
 |_=>.no
noncomputable def eqZ:PyData→P Bool
 | .list _=>.ok false
 |_=>.no
noncomputable def eqO(a b:PyData):P Bool :=
 match a with
 | .none=>eqZ b
 | .int x=>eqI x b
 | .str x=>eqS x b
 | .bool x=>eqB x b
 | .list x=>eqL x b
 |_=>.no
noncomputable def dB(a:Str):List Str→List Str
 | []=>[a]
 |b::r=>if b.cps.toList < a.cps.toList then b::dB a r else a::b::r
noncomputable def bK:List Str→List Str
 | []=>[]
 |a::r=>dB a (bK r)
noncomputable def bP:List (PyData×PyData)→Str→Option PyData
 | [],_=>none
 | (.str y,v)::r,x=>if x=y then some v else bP r x
 |_::r,x=>bP r x
noncomputable def dJ:List (PyData×PyData)→Str→PyData→List (PyData×PyData)
 | [],x,u=>[(.str x,u)]
 | (.str y,v)::r,x,u=>if x=y then (.str y,u)::r else (.str y,v)::dJ r x u
 |p::r,x,u=>p::dJ r x u
noncomputable def dC:List (PyData×PyData)→Str→List (PyData×PyData)
 | [],_=>[]
 | (.str y,v)::r,x=>if x=y then r else (.str y,v)::dC r x
 |p::r,x=>p::dC r x
noncomputable def slice{α:Type}(l:List α)(lo hi:Option Int):List α:=(l.drop (lo.elim 0 (clipAt l.length))).take (hi.elim l.length (clipAt l.length) - lo.elim 0 (clipAt l.length))
noncomputable def bF(c:Nat):PyData:=.str ⟨#[c]⟩
noncomputable def frz:Option PyData→P V
 |some d=>.ok (.fz d)
 |none=>.no
noncomputable def atP(l:List PyData)(k:Int):P V:=if 0≤k∧k < l.length then frz l[k.toNat]? else .no
noncomputable def atN(l:List PyData)(k:Int):P V:=if k < 0∧-(l.length:Int)≤k then frz l[(k+l.length).toNat]? else .no
noncomputable def atS(s:Str)(k:Int):P V:=if 0≤k∧k < s.cps.size then frz (s.cps[k.toNat]?.map bF) else .no
noncomputable def Fu(k:Int):PyData→P V
 | .list l=>if 0≤k then atP l k else atN l k
 | .tuple l=>atP l k
 | .str s=>atS s k
 |_=>.no
noncomputable def Fv(x:Str):PyData→P V
 | .dict l=>frz (bP l x)
 |_=>.no
noncomputable def getItem(a i:PyData):P V :=
 match i with
 | .int k=>Fu k a
 | .str x=>Fv x a
 |_=>.no
noncomputable def Fw(l:List PyData)(lo hi:Option Int):P V:=match lo with
 |some a=>(match hi with | none=>if 1≤a∧a≤l.length then .ok (.fz (.tuple (l.drop a.toNat))) else .no | some _=>.no)
 |none=>.no
noncomputable def gW(a:PyData)(lo hi:Option Int):P V :=
 match a with
 | .list l=>.ok (.own (.list (slice l lo hi)))
 | .str s=>.ok (.fz (.str ⟨(slice s.cps.toList lo hi).toArray⟩))
 | .tuple l=>Fw l lo hi
 |_=>.no
noncomputable def k9(x:Str)(l:List PyData):P Bool:=(ofO (strs? l)).bind fun ss=>.ok (ss.contains x)
noncomputable def inS(x:Str):PyData→P Bool
 | .str y=>.ok (Txt.contains y x)
 | .dict l=>.ok (bP l x).isSome
 | .list l=>k9 x l
 | .tuple l=>k9 x l
 |_=>.no
noncomputable def contains(a b:PyData):P Bool :=
 match a with
 | .str x=>inS x b
 |_=>.no
noncomputable def cC(p:P Bool):P Bool:=p.bind fun b=>.ok (!b)
noncomputable def dT:PyData→Bool
 | .none=>true
 |_=>false
noncomputable def lA(a b:PyData):P Bool :=
 match b with
 | .none=>.ok (dT a)
 |_=>.no
noncomputable def jE(f:Int→Int→Bool)(a b:PyData):P Bool :=
 match a with
 | .int x=>(match b with | .int y=>.ok (f x y) | _=>.no)
 |_=>.no
noncomputable def cmp(op:CmpOp)(a b:PyData):P Bool :=
 match op with
 | .Eq=>eqO a b
 | .NotEq=>cC (eqO a b)
 | .Lt=>jE (fun x y=>decide (x < y)) a b
 | .LtE=>jE (fun x y=>decide (x≤y)) a b
 | .Gt=>jE (fun x y=>decide (y < x)) a b
 | .GtE=>jE (fun x y=>decide (y≤x)) a b
 | .In=>contains a b
 | .NotIn=>cC (contains a b)
 | .Is=>lA a b
 | .IsNot=>cC (lA a b)
noncomputable def items:PyData→P (List PyData)
 | .list l=>.ok l
 | .tuple l=>.ok l
 | .dict l=>.ok (l.map (·.1))
 | .str s=>.ok (s.cps.toList.map bF)
 |_=>.no
noncomputable def lB:PyData→P (List PyData)
 | .list l=>.ok l
 | .tuple l=>.ok l
 |_=>.no
noncomputable def cD(i:Int):List PyData→List PyData
 | []=>[]
 |x::r=>.tuple [.int i,x]::cD (i+1) r
noncomputable def dD(l m:List PyData):List PyData:=List.zipWith (fun a b=>.tuple [a,b]) l m
noncomputable def bX(i:Int):Nat→List PyData
 |0=>[]
 |n+1=>.int i::bX (i+1) n
noncomputable def bools?:List PyData→Option (List Bool)
 | []=>some []
 | .bool b::r=>(bools? r).map (b::·)
 |_::_=>none
noncomputable def Fx(l:List PyData):P Bool:=(ofO (bools? l)).bind fun bs=>.ok (bs.all id)
noncomputable def bU:List Str→List Str
 | []=>[]
 |a::r=>if r.contains a then bU r else a::bU r
noncomputable def Fy:List PyData→Option (PyData×PyData)
 | []=>none
 |a::r=>match r with
  | []=>none
  |b::r=>match r with
   | []=>some (a,b)
   |_::_=>none
noncomputable def two:PyData→Option (PyData×PyData)
 | .tuple l=>Fy l
 |_=>none
noncomputable def keys?:List (PyData×PyData)→Option (List (Str×PyData))
 | []=>some []
 |p::r=>match p.1 with
  | .str k=>(keys? r).map ((k,p.2)::·)
  |_=>none
noncomputable def twos?:List PyData→Option (List (PyData×PyData))
 | []=>some []
 |x::r=>(two x).bind fun p=>(twos? r).map (p::·)
noncomputable def cK:List (Str×PyData)→List (PyData×PyData)→List (PyData×PyData)
 | [],acc=>acc
 |p::r,acc=>cK r (dJ acc p.1 p.2)
noncomputable def jF(i:Int):Str:=Str.ofString (toString i)
noncomputable def dU:PyData→Bool
 | .dict _=>true
 |_=>false
noncomputable def eF:PyData→Bool
 | .int _=>true
 | .bool _=>true
 |_=>false
noncomputable def eQ:PyData→Bool
 | .bool _=>true
 |_=>false
noncomputable def fF:PyData→Bool
 | .str _=>true
 |_=>false
noncomputable def lC:PyData→Bool
 | .list _=>true
 |_=>false
noncomputable def dW:PyData→Bool
 | .tuple _=>true
 |_=>false
noncomputable def fz(d:PyData):P V:=.ok (.fz d)
noncomputable def own(d:PyData):P V:=.ok (.own d)
noncomputable def fzb(b:P Bool):P V:=b.bind fun b=>.ok (.fz (.bool b))
noncomputable def aU:PyData→P V
 | .list l=>fz (.int l.length)
 | .tuple l=>fz (.int l.length)
 | .str s=>fz (.int s.cps.size)
 | .dict l=>fz (.int l.length)
 |_=>.no
noncomputable def bS:PyData→P V
 | .list l=>fzb (Fx l)
 |_=>.no
noncomputable def f7(l:List PyData):P V:=(ofO (strs? l)).bind fun l=>if l.length < 64 then own (.list ((bK l).map .str)) else .no
noncomputable def fG:PyData→P V
 | .list l=>f7 l
 | .dict l=>f7 (l.map (·.1))
 |_=>.no
noncomputable def fH:PyData→P V
 | .dict l=>own (.list (l.map (·.1)))
 | .list l=>own (.list l)
 |_=>.no
noncomputable def cL:PyData→P V
 | .list l=>fz (.tuple l)
 |_=>.no
noncomputable def b8:PyData→P V
 | .list l=>(ofO (twos? l)).bind fun l=>(ofO (keys? l)).bind fun l=>if l.length < 4096 then own (.dict (cK l [])) else .no
 | .dict l=>own (.dict l)
 |_=>.no
noncomputable def dX:PyData→P V
 | .bool b=>fz (.int (if b then 1 else 0))
 | .str s=>if s.length≤640 then (ofO (PySem.intText? s)).bind fun i=>fz (.int i) else .no
 |_=>.no
noncomputable def eR:PyData→P V
 | .str s=>fz (.str s)
 | .int i=>if i.natAbs.log2 < 1920 then fz (.str (jF i)) else .no
 |_=>.no
noncomputable def oU:PyData→P V
 | .int i=>fz (.int (if i < 0 then -i else i))
 |_=>.no
noncomputable def oV:PyData→Bool
 | .str _=>true
 | .int i=>decide (i.natAbs < 10)
 |_=>false
noncomputable def oW:PyData→Bool
 | .str _=>true
 | .list l=>l.all oV
 |_=>false
noncomputable def u1:PyData→P V
 | .tuple l=>if l.all oW=true∧(PyData.shown (.tuple l)).length≤sizeLine then .ok (.fz (.str (PyData.shown (.tuple l)))) else .no
 |_=>.no
noncomputable def oX(f:Str)(d:PyData):P V :=
 if f = "len" then aU d
 else if f = "all" then bS d
 else if f = "sorted" then fG d
 else if f = "list" then fH d
 else if f = "tuple" then cL d
 else if f = "dict" then b8 d
 else if f = "int" then dX d
 else if f = "str" then eR d
 else if f = "abs" then oU d
 else if f = "repr" then u1 d
 else .no
noncomputable def gX(f:Str):Bool:=f == "len" || f == "all" || f == "sorted" || f == "list" || f == "tuple" || f == "dict" || f == "int" || f == "str" || f == "abs" || f == "repr"
noncomputable def Fz:List PyData→Option PyData
 | []=>some .none
 |d::r=>match r with
  | []=>some d
  |_::_=>none
noncomputable def u3(l:List (PyData×PyData))(r:List PyData):PyData→P V
 | .str k=>(ofO (Fz r)).bind fun d=>fz ((bP l k).getD d)
 |_=>.no
noncomputable def Wf:PyData→P (List PyData)
 | .list l=>.ok l
 |_=>.no
noncomputable def u4(sep:Str)(r:List PyData)(d:PyData):P V :=
 match r with
 | []=>(lB d).bind fun l=>(ofO (strs? l)).bind fun l=>if JoinOk sep l then fz (.str (Txt.join sep l)) else .no
 |_::_=>.no
noncomputable def mOk(m:Str)(o:PyData):Bool :=
 match o with
 | .dict _=>decide (m = "get")
 | .str _=>decide (m = "join")
 |_=>false
noncomputable def dK(o:PyData)(as:List PyData):P V :=
 match as with
 | []=>.no
 |k::r=>match o with
  | .dict l=>u3 l r k
  | .str sep=>u4 sep r k
  |_=>.no
inductive EW where
 |name (x:Str)
 |tup (es:List Expr)
 |star
 |call (f:Expr) (as:List Expr) (kws:List Keyword) (q:Pos)
 |attr (o:Expr) (m:Str) (p:Pos)
 |sub (o i:Expr)
 |slice (a b c:Option Expr)
 |comp
 |setd
 |other
noncomputable def vw:Expr→EW
 | .Name x _=>.name x
 | .Tuple es _ _=>.tup es
 | .Starred _ _=>.star
 | .Call f as kws q=>.call f as kws q
 | .Attribute o m p=>.attr o m p
 | .Subscript o i _=>.sub o i
 | .Slice a b c _=>.slice a b c
 | .ListComp _ _ _ _=>.comp
 | .SetComp _ _ _ _=>.comp
 | .DictComp _ _ _ _ _=>.comp
 | .Set _ _ _=>.setd
 |_=>.other
noncomputable def bB(e:Expr):Option Str:=match vw e with | .name x=>some x | _=>none
noncomputable def oY(e:Expr):Bool:=match vw e with | .call _ _ _ _=>true | _=>false
noncomputable def lD(e:Expr):Bool:=match vw e with | .comp=>true | _=>false
noncomputable def u5(e:Expr):Bool:=match vw e with | .slice _ _ _=>true | _=>false
noncomputable def fJ(e:Expr):Bool:=match vw e with | .tup _=>true | _=>false
noncomputable def f8(e:Expr):Option (Expr×List Expr×List Keyword×Pos):=match vw e with | .call f as kws q=>some (f,as,kws,q) | _=>none
noncomputable def jG(e:Expr):Option (Expr×Str×Pos):=match vw e with | .attr o m p=>some (o,m,p) | _=>none
noncomputable def oZ{α:Type}(kws:List Keyword)(a:α):Option α:=match kws with | []=>some a | _::_=>none
noncomputable def bad(e:Expr):Bool:=match vw e with | .star=>true | .setd=>true | .slice _ _ _=>true | _=>false
structure Ctx where
 call:Str→List V→R V
 has:Str→Bool
 const:Str→Option PyData
 hd:Bool
 sub:Str→Str→Option Bool
 init:Str→Option (Option (List Str))
noncomputable def evs(rec:Expr→R V):List Expr→R (List V)
 | []=>.ok []
 |e::r=>rb (rec e) fun v=>rb (evs rec r) fun vs=>.ok (v.clear::vs)
noncomputable def bJ(l:List V):List PyData:=l.map dOf
noncomputable def isG(sc:Scope)(x:Str):Bool:=sc.names.lookup x==some .globalImplicit
noncomputable def isL(sc:Scope)(x:Str):Bool :=
 match sc.names.lookup x with
 |some .local=>true
 |some .cell=>true
 |some .free=>true
 |_=>false
noncomputable def tst(r:R V):R Bool:=rb r fun v=>ofP (cG v)
noncomputable def jH(rec:Expr→R V):List Expr→R V
 | []=>.no
 |e::r=>match r with
  | []=>rec e
  |r=>rb (rec e) fun v=>rb (ofP (cG v)) fun b=>if b then jH rec r else .ok v
noncomputable def jI(rec:Expr→R V):List Expr→R V
 | []=>.no
 |e::r=>match r with
  | []=>rec e
  |r=>rb (rec e) fun v=>rb (ofP (cG v)) fun b=>if b then .ok v else jI rec r
noncomputable def aV(b:R Bool):R V:=rb b fun b=>.ok (.fz (.bool b))
noncomputable def pA(rec:Expr→R V)(a:PyData)(op:CmpOp)(e:Expr):R Bool:=rb (rec e) fun v=>ofP (cmp op a (dOf v))
noncomputable def F0(rec:Expr→R V)(a:PyData)(op op':CmpOp)(e e':Expr):R Bool:=rb (rec e) fun v=>rb (ofP (cmp op a (dOf v))) fun t=>if t then pA rec (dOf v) op' e' else .ok false
noncomputable def lE(rec:Expr→R V)(a:PyData)(ops:List CmpOp)(es:List Expr):R Bool :=
 match ops with
 | []=>.no
 |op::ops=>match es with
  | []=>.no
  |e::es=>match ops with
   | []=>(match es with | []=>pA rec a op e | _::_=>.no)
   |op'::ops=>match es with
    | []=>.no
    |e'::es=>match ops with
     | []=>(match es with | []=>F0 rec a op op' e e' | _::_=>.no)
     |_::_=>.no
noncomputable def lF(rec:Expr→R V):List (Option Expr)→List Expr→R (List (PyData×PyData))
 | [],[]=>.ok []
 |some k::ks,e::es=>rb (rec k) fun k=>rb (rec e) fun v=>rb (lF rec ks es) fun r=>.ok ((dOf k,dOf v)::r)
 |_,_=>.no
noncomputable def jJ(l:List (PyData×PyData)):P V:=(ofO (keys? l)).bind fun l=>own (.dict (cK l []))
noncomputable def cM:List Expr→Option (List Str)
 | []=>some []
 |e::r=>(bB e).bind fun x=>(cM r).map (x::·)
noncomputable def gY(rec:Expr→R V)(e:Expr):R (List PyData):=rb (rec e) fun v=>ofP (items (dOf v))
noncomputable def lG(n:PyData):P (List PyData) :=
 match n with
 | .int n=>if -4096≤n∧n≤4096 then .ok (bX 0 n.toNat) else .no
 |_=>.no
noncomputable def f9:V→P PyData
 | .fz d=>.ok d
 |_=>.no
noncomputable def lH(rec:Expr→R V)(a:Expr):R (List PyData):=rb (rec a) fun v=>ofP ((f9 v).bind lG)
noncomputable def u6:PyData→P (List PyData)
 | .list l=>.ok l.reverse
 |_=>.no
noncomputable def lI(rec:Expr→R V)(a:Expr):R (List PyData):=rb (rec a) fun v=>ofP (u6 (dOf v))
noncomputable def lJ(rec:Expr→R V)(a:Expr):R (List PyData):=rb (rec a) fun v=>ofP ((lB (dOf v)).bind fun l=>.ok (cD 0 l))
noncomputable def lK:PyData→P (List PyData)
 | .tuple l=>.ok l
 |_=>.no
noncomputable def gZ(e:Expr):Option (Str×List Expr):=(f8 e).bind fun c=>(bB c.1).bind fun x=>oZ c.2.2.1 (x,c.2.1)
noncomputable def u7(a b:PyData):P (List PyData):=(lK a).bind fun l=>(lK b).bind fun m=>.ok (dD l m)
noncomputable def u8(vs:List V):P (List PyData):=match vs with
 | []=>.no
 |a::r=>match r with
  | []=>.no
  |b::r=>(match r with | []=>u7 (dOf a) (dOf b) | _::_=>.no)
noncomputable def pB(rec:Expr→R V)(target:Expr)(as:List Expr):R (List PyData):=if fJ target=true∧as.any bad=false then rb (evs rec as) fun vs=>ofP (u8 vs) else .no
noncomputable def eS(rec:Expr→R V)(hd:Bool)(sc:Scope)(target:Expr)(e:Expr):R (List PyData) :=
 if hd then .no else
 match gZ e with
 |none=>gY rec e
 |some c =>
  if c.1 = "range" ∨ c.1 = "enumerate" ∨ c.1 = "reversed" ∨ c.1 = "zip" then
   if isG sc c.1 then (if c.1 = "zip" then pB rec target c.2 else match c.2 with
    | []=>.no
    |a::r=>match r with
     | []=>if c.1 = "range" then lH rec a else if c.1 = "enumerate" ∧ fJ target=true then lJ rec a else if c.1 = "reversed" then lI rec a else .no
     |_::_=>.no)
   else .no
  else gY rec e
noncomputable def bnd(x:Str)(d:PyData)(σ:aA):aA:=(".0", none)::(x,some (.fz d))::σ
noncomputable def aR(test:PyData→R Bool)(elt:PyData→R V):List PyData→R (List PyData)
 | []=>.ok []
 |d::r=>rb (nx (test d)) fun b =>
  if b then rb (nx (elt d)) fun v=>rb (aR test elt r) fun xs=>.ok (dOf v::xs)
  else aR test elt r
inductive Tg where
 |one (x:Str)
 |pair (x y:Str)
noncomputable def tgL:List Str→Option Tg
 | []=>none
 |x::r=>match r with
  | []=>none
  |y::r=>(match r with | []=>some (.pair x y) | _::_=>none)
noncomputable def jK(e:Expr):Option Tg:=match vw e with
 | .name x=>some (.one x)
 | .tup es=>(cM es).bind tgL
 |_=>none
noncomputable def Tg.ns:Tg→List Str
 | .one x=>[x]
 | .pair x y=>[x,y]
noncomputable def Tg.apart:Tg→Bool
 | .one _=>true
 | .pair x y=>x != y
noncomputable def jL(t:Tg)(d:PyData)(σ:aA):Option aA:=match t with
 | .one x=>some (bnd x d σ)
 | .pair x y=>(two d).map fun q=>(".0", none)::(y,some (.fz q.2))::(x,some (.fz q.1))::σ
noncomputable def jM{α:Type}(t:Tg)(d:PyData)(σ:aA)(k:aA→R α):R α:=match t with
 | .one x=>k (bnd x d σ)
 | .pair x y=>match two d with
  |some q=>k ((".0", none)::(y,some (.fz q.2))::(x,some (.fz q.1))::σ)
  |none=>.no
noncomputable def fK(test:aA→R Bool)(elt:aA→R V)(t:Tg)(σ:aA)(l:List PyData):R (List PyData):=aR (fun d=>jM t d σ test) (fun d=>jM t d σ elt) l
noncomputable def jN(sc:Scope)(σ:aA)(x:Str):Option PyData :=
 match aA.get σ x with
 |some o=>(match o with
  |some v=>(match v with | .own d=>if isL sc x then some d else none | _=>none)
  |none=>none)
 |none=>none
noncomputable def lL(sc:Scope)(σ:aA)(e:Expr):Option PyData:=match bB e with | some x=>jN sc σ x | none=>none
noncomputable def u9(sc:Scope)(σ:aA)(x:Str):Option X :=
 match aA.get σ x with
 |some o=>(match o with
  |some v=>(match v with | .ex d=>if isL sc x then some d else none | _=>none)
  |none=>none)
 |none=>none
noncomputable def jO(sc:Scope)(σ:aA)(e:Expr):Option X:=match bB e with | some x=>u9 sc σ x | none=>none
noncomputable def lM(rec:Expr→R V)(sc:Scope)(σ:aA)(o:Expr):R PyData :=
 match lL sc σ o with
 |some d=>.ok d
 |none=>rb (rec o) fun v=>.ok (dOf v)
noncomputable def lN:Option NameKind→Bool
 |some .cell=>true
 |some .free=>true
 |_=>false
noncomputable def lO(sc sc':Scope)(t:Tg):Bool :=
 sc'.kind==.function&&(sc'.names.all fun p=>match p.2 with
  | .local=>(p.1 == ".0" || t.ns.contains p.1)&&sc'.names.lookup p.1==some .local
  | .cell=>false
  | .free=>lN (sc.names.lookup p.1)
  |_=>true)&&(t.ns.all fun x=>x != ".0" && sc'.names.lookup x==some .local)&&t.apart&&(sc'.names.lookup (Str.ofString "__debug__")).isNone&&(sc'.names.lookup (Str.ofString "__classdict__")).isNone
noncomputable def F1(a b:PyData):P V :=
 match a with
 | .int x=>(match b with | .int y=>fz (.int (if y < x then y else x)) | _=>.no)
 |_=>.no
noncomputable def lP:List V→P V
 | []=>.no
 |a::r=>match r with
  | []=>.no
  |b::r=>(match r with | []=>(f9 a).bind fun a=>(f9 b).bind fun b=>F1 a b | _::_=>.no)
noncomputable def lQ(t:Str)(d:PyData):P V :=
 if t = "dict" then fz (.bool (dU d))
 else if t = "int" then fz (.bool (eF d))
 else if t = "bool" then fz (.bool (eQ d))
 else if t = "str" then fz (.bool (fF d))
 else if t = "list" then fz (.bool (lC d))
 else if t = "tuple" then fz (.bool (dW d))
 else .no
noncomputable def lR(e:Expr):Bool:=match vw e with | .call f _ _ _=>(bB f).isNone | _=>true
noncomputable def dL(d:PyData):P V:=(lB d).bind fun l=>(ofO (strs? l)).bind fun ss=>if ss.length < 64 then fz (.int (bU ss.reverse).length) else .no
noncomputable def eG:PyData→P V
 | .dict l=>own (.list (l.map fun p=>.tuple [p.1,p.2]))
 |_=>.no
noncomputable def vA(rec:Expr→R V)(sc:Scope)(as:List Expr):R V :=
 match as with
 | []=>.no
 |x::r=>match r with
  | []=>if isG sc "set" = true then rb (rec x) fun v=>ofP (dL (dOf v)) else .no
  |_::_=>.no
noncomputable def vB(rec:Expr→R V)(o:Expr)(ap cp:Pos)(as:List Expr):R V :=
 match as with
 | []=>if lR o=true∧(ap.endLine==cp.line)=true then rb (rec o) fun v=>ofP (eG (dOf v)) else .no
 |_::_=>.no
noncomputable def pC(f:Str):Bool:=f == "all" || f == "list" || f == "dict" || f == "set" || f == "sorted"
noncomputable def fL(rec:Expr→R V)(hd:Bool)(f:Str)(a:Expr):R V:=if hd&&pC f then .no else rb (rec a) fun v=>ofP (oX f (dOf v))
noncomputable def vC(rec:Expr→R V)(hd:Bool)(sc:Scope)(f:Str)(as:List Expr)(kws:List Keyword):R V :=
 if f = "len" ∧ hd=false then (match kws with | []=>vA rec sc as | _::_=>.no) else .no
noncomputable def vD(rec:Expr→R V)(hd:Bool)(f:Str)(o:Expr)(ap cp:Pos)(as:List Expr)(kws:List Keyword):R V :=
 if f = "list" ∧ hd=false then (match kws with | []=>vB rec o ap cp as | _::_=>.no) else .no
noncomputable def vE(rec:Expr→R V)(hd:Bool)(sc:Scope)(f:Str)(a:Expr)(as:List Expr)(kws:List Keyword)(cp:Pos):EW→R V
 | .name g=>if g = "set" then vC rec hd sc f as kws else fL rec hd f a
 | .attr o m ap=>if m = "items" then vD rec hd f o ap cp as kws else fL rec hd f a
 |_=>fL rec hd f a
noncomputable def pD(rec:Expr→R V)(hd:Bool)(sc:Scope)(f:Str)(a:Expr):R V :=
 match f8 a with
 |some c=>vE rec hd sc f a c.2.1 c.2.2.1 c.2.2.2 (vw c.1)
 |none=>fL rec hd f a
noncomputable def vF(rec:Expr→R V)(sc:Scope)(a:Expr)(r:List Expr):Option Str→R V
 |some t=>(match r with
  | []=>if isG sc t then rb (rec a) fun v=>ofP (lQ t (dOf v)) else .no
  |_::_=>.no)
 |none=>.no
noncomputable def vG(rec:Expr→R V)(sc:Scope)(as:List Expr):R V :=
 match as with
 | []=>.no
 |a::r=>match r with
  | []=>.no
  |b::r=>vF rec sc a r (bB b)
noncomputable def F2(rec:Expr→R V)(hd:Bool)(sc:Scope)(f:Str)(as:List Expr):R V :=
 match as with
 | []=>.no
 |a::r=>(match r with | []=>pD rec hd sc f a | _::_=>.no)
noncomputable def hJ(rec:Expr→R V)(sc:Scope)(σ:aA)(e:Expr):R V :=
 match jO sc σ e with
 |some x=>.ok (.ex x)
 |none=>rec e
noncomputable def lT(rec:Expr→R V)(K:Ctx)(sc:Scope)(σ:aA)(f:Str)(as:List Expr):R V :=
 if isG sc f then
  if f = "isinstance" then vG rec sc as
  else if f = "min" then (if as.any bad=true∨K.hd=true then .no else rb (evs rec as) fun vs=>ofP (lP vs))
  else if gX f then F2 rec K.hd sc f as
  else if as.any bad=true∨K.has f=false then .no else rb (evs (hJ rec sc σ) as) fun vs=>K.call f vs
 else .no
noncomputable def pE(rec:Scope→aA→Expr→R V)(sc':Scope):List Expr→Option (aA→R Bool)
 | []=>some fun _=>.ok true
 | [c]=>some fun σ'=>tst (rec sc' σ' c)
 |_=>none
noncomputable def hO(rec:Scope→aA→Expr→R V)(hd:Bool)(sc:Scope)(σ:aA)(elt:Expr)(g:Comprehension)(sc':Scope):R V :=
 match jK g.target with
 |none=>.no
 |some x=>if lO sc sc' x&&g.is_async==0 then match pE rec sc' g.ifs with
  |none=>.no
  |some t=>rb (rb (eS (rec sc σ) hd sc g.target g.iter) fun l=>fK t (fun σ'=>rec sc' σ' elt) x σ l) fun r=>ofP (own (.list r))
 else .no
noncomputable def rdv:V→P V
 | .fz d=>.ok (.fz d)
 |_=>.no
noncomputable def pF(K:Ctx)(sc:Scope)(σ:aA)(x:Str):P V :=
 if isL sc x then match aA.get σ x with
  |some o=>(match o with | some v=>rdv v | none=>.no)
  |none=>.no
 else if isG sc x then (ofO (K.const x)).bind fz
 else .no
noncomputable def pG:Const→P V
 | .none=>fz .none
 | .bool b=>fz (.bool b)
 | .int i=>fz (.int i)
 | .str s=>mkS s
 |_=>.no
noncomputable def vH:PyData→P V
 | .int i=>fz (.int (-i))
 |_=>.no
noncomputable def eH(op:UnaryOp)(v:V):P V :=
 match op with
 | .Not=>(cG v).bind fun b=>fz (.bool !b)
 | .USub=>vH (dOf v)
 |_=>.no
noncomputable def F3(rec:Expr→R V)(a:PyData)(i:Expr):R V:=rb (rec i) fun i=>ofP (getItem a (dOf i))
noncomputable def toI:V→P (Option Int)
 | .fz d=>(match d with | .int i=>.ok (some i) | _=>.no)
 |_=>.no
noncomputable def pH(rec:Expr→R V):Option Expr→R (Option Int)
 |none=>.ok none
 |some e=>rb (rec e) fun v=>ofP (toI v)
noncomputable def jP(e:Expr):Option (Option Expr×Option Expr×Option Expr):=match vw e with | .slice a b c=>some (a,b,c) | _=>none
noncomputable def pI(rec:Expr→R V)(sc:Scope)(σ:aA)(o i:Expr):R V :=
 match jP i with
 |some c=>(match c.2.2 with
  |none=>rb (lM rec sc σ o) fun a=>rb (pH rec c.1) fun lo=>rb (pH rec c.2.1) fun hi=>ofP (gW a lo hi)
  |some _=>.no)
 |none=>if bad i then .no else rb (lM rec sc σ o) fun a=>F3 rec a i
noncomputable def jQ(rec:Expr→R V)(o:Expr)(m:Str)(ap:Pos)(as:List Expr)(cp:Pos):R V :=
 if m = "items" ∨ lR o=false∨(ap.endLine==cp.line)=false∨as.any bad=true∨3 < as.length then .no else
  rb (rec o) fun o=>if mOk m (dOf o) then rb (evs rec as) fun as=>ofP (dK (dOf o) (bJ as)) else .no
noncomputable def jR:List (Str×PyData)→Str→Option PyData
 | [],_=>none
 | (y,d)::r,x=>if x=y then some d else jR r x
noncomputable def vI:Option (Option V)→Option X
 |some (some (.ex x))=>some x
 |_=>none
noncomputable def vJ(K:Ctx)(sc:Scope)(σ:aA)(o:Expr)(m:Str):P V :=
 (ofO (bB o)).bind fun n=>if isL sc n=true then (ofO (vI (aA.get σ n))).bind fun x=>(ofO (K.init x.cls)).bind fun i=>(ofO i).bind fun ps=>if ps.contains m=true then (ofO (jR x.fields m)).bind fun d=>.ok (.fz d) else .no else .no
noncomputable def eI(rec:Scope→aA→Expr→R V)(K:Ctx)(sc:Scope)(σ:aA)(e:Expr):R V :=
 match e with
 | .Constant c _ _=>ofP (pG c)
 | .Name x _=>ofP (pF K sc σ x)
 | .BoolOp op vs _=>match op with | .And=>jH (rec sc σ) vs | .Or=>jI (rec sc σ) vs
 | .BinOp l op r _=>rb (rec sc σ l) fun a=>rb (rec sc σ r) fun b=>ofP (aC op (dOf a) (dOf b))
 | .UnaryOp op x _=>rb (rec sc σ x) fun v=>ofP (eH op v)
 | .IfExp t b o _=>rb (tst (rec sc σ t)) fun c=>if c then rec sc σ b else rec sc σ o
 | .Dict ks vs _=>if ks.all Option.isSome=true∧ks.length=vs.length∧vs.length≤15 then rb (lF (rec sc σ) ks vs) fun l=>ofP (jJ l) else .no
 | .List es _=>rb (evs (rec sc σ) es) fun l=>if l.length≤aI then .ok (.own (.list (bJ l))) else .no
 | .Tuple es _ _=>rb (evs (rec sc σ) es) fun l=>if l.length≤aI then .ok (.fz (.tuple (bJ l))) else .no
 | .ListComp elt gens sc' _=>match gens with
  | []=>.no
  |g::gs=>(match gs with | []=>hO rec K.hd sc σ elt g sc' | _::_=>.no)
 | .Compare l ops es _=>rb (rec sc σ l) fun a=>aV (lE (rec sc σ) (dOf a) ops es)
 | .Subscript o i _=>pI (rec sc σ) sc σ o i
 | .Attribute o m _=>ofP (vJ K sc σ o m)
 | .Call f as kws cp=>match kws with
  | []=>(match vw f with
   | .attr o m ap=>jQ (rec sc σ) o m ap as cp
   | .name f=>lT (rec sc σ) K sc σ f as
   |_=>.no)
  |_::_=>.no
 |_=>.no
noncomputable def evE(K:Ctx):Nat→Scope→aA→Expr→R V
 |0=>fun _ _ _=>.no
 |k+1=>eI (evE K k) K
inductive SV where
 |fn (n:Str) (a:Arguments) (b:List Stmt) (sc:Scope)
 |cls (n:Str) (bs:List Expr) (b:List Stmt)
 |asg (ts:List Expr) (e:Expr)
 |other
noncomputable def sv:Stmt→SV
 | .FunctionDef n a b _ _ _ sc _ _ _=>.fn n a b sc
 | .ClassDef n bs _ b _ _ _ _ _ _ _=>.cls n bs b
 | .Assign ts e _=>.asg ts e
 |_=>.other
noncomputable def F4:Expr→Option Const
 | .Constant c _ _=>some c
 |_=>none
noncomputable def dE(f:Str):List Stmt→Option (Arguments×List Stmt×Scope)
 | []=>none
 |s::r=>match sv s with
  | .fn n a b sc=>if f=n then some (a,b,sc) else dE f r
  |_=>dE f r
noncomputable def vK(s:Stmt):Option (Str×Const):=match sv s with
 | .asg ts e=>(match ts with
  | []=>none
  |t::r=>(match r with
   | []=>(bB t).bind fun x=>(F4 e).bind fun c=>some (x,c)
   |_::_=>none))
 |_=>none
noncomputable def F5:Const→Option PyData
 | .int i=>some (.int i)
 | .str s=>if s.length≤aI then some (.str s) else none
 |_=>none
noncomputable def gA(body:List Stmt)(x:Str):Option PyData :=
 if x = "__name__" then none else body.findSome? fun s=>(vK s).bind fun p=>if x=p.1 then F5 p.2 else none
noncomputable def vL(b:List Stmt):Option (List Str):=match b with
 | []=>none
 |s::r=>(match r with
  | []=>(match sv s with | .fn _ a _ _=>some (a.args.drop 1 |>.map (·.arg)) | _=>none)
  |_::_=>none)
noncomputable def bE(c:Str):List Stmt→Option (Str×Option (List Str))
 | []=>none
 |s::r=>match sv s with
  | .cls n bs b=>if c=n then (match cM bs with | some [y]=>some (y,vL b) | _=>none) else bE c r
  |_=>bE c r
noncomputable def fM(body:List Stmt):Nat→Str→Str→Bool
 |0,_,_=>false
 |n+1,c,d=>c==d||(match bE c body with | some p=>fM body n p.1 d | none=>false)
noncomputable def eJ(body:List Stmt)(c d:Str):Option Bool :=
 if ((bE d body).isSome||d == "ValueError")&&(bE c body).isSome then some (fM body 4 c d) else none
end Mine
namespace Mine
open PySem
noncomputable def esc:Nat→Expr→List Str
 |0,_=>[]
 |k+1,e =>
  match e with
  | .Name x _=>[x]
  | .BoolOp _ vs _=>vs.flatMap (esc k)
  | .BinOp l _ r _=>esc k l++esc k r
  | .UnaryOp _ x _=>esc k x
  | .IfExp a b c _=>esc k a++esc k b++esc k c
  | .Dict ks vs _=>ks.flatMap (fun o=>o.elim [] (esc k))++vs.flatMap (esc k)
  | .List es _=>es.flatMap (esc k)
  | .Tuple es _ _=>es.flatMap (esc k)
  | .ListComp elt gens _ _=>esc k elt++gens.flatMap fun g=>esc k g.iter++g.ifs.flatMap (esc k)
  | .Compare l _ es _=>esc k l++es.flatMap (esc k)
  | .Subscript o i _=>if (bB o).isSome then esc k i else esc k o++esc k i
  | .Slice a b _ _=>a.elim [] (esc k)++b.elim [] (esc k)
  | .Attribute o _ _=>esc k o
  | .Call f as _ _=>(jG f).elim [] (fun c=>esc k c.1)++as.flatMap (esc k)
  |_=>[]
noncomputable def fN:Nat:=4096
noncomputable def cQ(x:Str)(v:V)(σ:aA):P aA :=
 match aA.get σ x with
 |some _=>.ok (aA.set σ x v)
 |none=>.no
noncomputable def lU:List Str→List PyData→aA→P aA
 | [],[],σ=>.ok σ
 |x::xs,d::ds,σ=>(cQ x (.fz d) σ).bind fun σ=>lU xs ds σ
 |_,_,_=>.no
noncomputable def aS(target:Expr)(d:PyData)(σ:aA):P aA :=
 match vw target with
 | .name x=>cQ x (.fz d) σ
 | .tup es=>(lK d).bind fun ds=>(ofO (cM es)).bind fun xs=>lU xs ds σ
 |_=>.no
abbrev KN:=aA→R V
abbrev KR:=V→R V
noncomputable def aT(body:aA→KN→KR→R V)(target:Expr):List PyData→aA→KN→KR→R V
 | [],σ,kn,_=>kn σ
 |d::r,σ,kn,kr=>rb (ofP (aS target d σ)) fun σ=>body σ (fun σ=>aT body target r σ kn kr) kr
noncomputable def dM(test:aA→R Bool)(body:aA→KN→KR→R V):Nat→aA→KN→KR→R V
 |0,_,_,_=>.no
 |n+1,σ,kn,kr=>rb (test σ) fun b=>if b then body σ (fun σ=>dM test body n σ kn kr) kr else kn σ
noncomputable def vM(l:List (PyData×PyData))(d:PyData):PyData→P PyData
 | .str k=>if l.length < aI then .ok (.dict (dJ l k d)) else .no
 |_=>.no
noncomputable def vN(l:List PyData)(d:PyData):PyData→P PyData
 | .int k=>if 0≤k∧k < l.length then .ok (.list (l.set k.toNat d)) else .no
 |_=>.no
noncomputable def setItem(o:PyData)(i d:PyData):P PyData :=
 match o with
 | .dict l=>vM l d i
 | .list l=>vN l d i
 |_=>.no
noncomputable def hU:V→P PyData
 | .own d=>.ok d
 |_=>.no
noncomputable def gB(σ:aA)(x:Str):P PyData :=
 match aA.get σ x with
 |some o=>(match o with | some v=>hU v | none=>.no)
 |none=>.no
noncomputable def blk(rec:Stmt→aA→KN→KR→R V):List Stmt→aA→KN→KR→R V
 | [],σ,kn,_=>kn σ
 |s::r,σ,kn,kr=>rec s σ (fun σ=>blk rec r σ kn kr) kr
noncomputable def hV(m:Str):PyData→Bool
 | .list _=>decide (m = "append")
 | .dict _=>decide (m = "pop")||decide (m = "update")
 |_=>false
noncomputable def vO(l:List (PyData×PyData)):PyData→P PyData
 | .str k=>if (bP l k).isSome then .ok (.dict (dC l k)) else .no
 |_=>.no
noncomputable def vP(l:List (PyData×PyData)):PyData→P PyData
 | .dict m=>(ofO (keys? m)).bind fun m=>if l.length+m.length < 4096 then .ok (.dict (cK m l)) else .no
 |_=>.no
noncomputable def lV(m:Str)(o:PyData)(as:List PyData):P PyData :=
 match as with
 | []=>.no
 |d::r=>match r with
  | []=>(match o with
   | .list l=>if l.length < aI then .ok (.list (l++[d])) else .no
   | .dict l=>if m = "pop" then vO l d else vP l d
   |_=>.no)
  |_::_=>.no
noncomputable def jS(e:Expr):Option (Str×Str×Pos×List Expr×Pos) :=
 (f8 e).bind fun c=>(jG c.1).bind fun a=>(bB a.1).bind fun x=>oZ c.2.2.1 (x,a.2.1,a.2.2,c.2.1,c.2.2.2)
abbrev EV:=aA→Expr→R V
noncomputable def pJ(ev:EV)(F:Nat)(sc:Scope)(σ:aA)(e:Expr)(kr:KR):R V :=
 match bB e with
 |some x=>(match jN sc σ x with
  |some d=>kr (.own d)
  |none=>rb (ev σ e) kr)
 |none=>rb (ev (aA.clear σ (esc F e)) e) kr
noncomputable def lW(ev:EV)(σ:aA)(x:Str)(i e:Expr)(kn:KN):R V :=
 if u5 i then .no else
 rb (ev σ e) fun v=>rb (ofP (gB σ x)) fun o=>rb (ev σ i) fun iv=>rb (ofP (setItem o (dOf iv) (dOf v))) fun o=>rb (ofP (cQ x (.own o) σ)) kn
noncomputable def vQ(ev:EV)(hd:Bool)(σ:aA)(t e:Expr)(kn:KN):R V :=
 if oY e=true∧hd=false then rb (ev σ e) fun v=>rb (ofP (aS t (dOf v) σ)) kn else .no
noncomputable def vR(l:List (PyData×PyData)):PyData→P (PyData×PyData)
 | .str k=>(ofO (bP l k)).bind fun d=>.ok (d,.dict (dC l k))
 |_=>.no
noncomputable def vT:PyData→P (List (PyData×PyData))
 | .dict l=>.ok l
 |_=>.no
noncomputable def pK(ev:EV)(σ:aA)(x:Str)(i:Expr)(y:Str)(ap:Pos)(as:List Expr)(cp:Pos)(kn:KN):R V :=
 if (ap.endLine==cp.line)=false∨as.any bad=true∨u5 i=true then .no else
 match as with
 | []=>.no
 |k::r=>match r with
  |_::_=>.no
  | []=>rb (ofP ((gB σ y).bind vT)) fun l=>rb (ev σ k) fun kv=>rb (ofP (vR l (dOf kv))) fun q=>rb (ofP (cQ y (.own q.2) σ)) fun σ =>
   rb (ofP (gB σ x)) fun o=>rb (ev σ i) fun iv=>rb (ofP (setItem o (dOf iv) q.1)) fun o=>rb (ofP (cQ x (.own o) σ)) kn
noncomputable def lX(ev:EV)(F:Nat)(σ:aA)(x:Str)(i e:Expr)(kn:KN):R V :=
 match jS e with
 |some (y,m,ap,as,cp)=>if m = "pop" then pK ev (aA.clear σ (as.flatMap (esc F))) x i y ap as cp kn else lW ev (aA.clear σ (esc F e)) x i e kn
 |none=>lW ev (aA.clear σ (esc F e)) x i e kn
noncomputable def pL(ev:EV)(F:Nat)(hd:Bool)(σ:aA)(t e:Expr)(kn:KN):R V :=
 match vw t with
 | .name x=>rb (ev (aA.clear σ (esc F e)) e) fun v=>rb (ofP (cQ x v (aA.clear σ (esc F e)))) kn
 | .sub o i=>(match bB o with | some x=>lX ev F σ x i e kn | none=>.no)
 | .tup _=>vQ ev hd (aA.clear σ (esc F e)) t e kn
 |_=>.no
noncomputable def lY(ev:EV)(σ:aA)(x m:Str)(ap:Pos)(as:List Expr)(cp:Pos)(kn:KN):R V :=
 if (ap.endLine==cp.line)=false∨as.any bad=true∨3 < as.length then .no else
 rb (ofP (gB σ x)) fun o=>if hV m o then rb (evs (ev σ) as) fun as'=>rb (ofP (lV m o (bJ as'))) fun o=>rb (ofP (cQ x (.own o) σ)) kn else .no
noncomputable def pM(ev:EV)(F:Nat)(σ:aA)(e:Expr)(kn:KN):R V :=
 match jS e with
 |some (x,m,ap,as,cp)=>lY ev (aA.clear σ (as.flatMap (esc F))) x m ap as cp kn
 |none=>if lD e then .no else rb (ev (aA.clear σ (esc F e)) e) fun _=>kn (aA.clear σ (esc F e))
noncomputable def lZ(ev:EV)(F:Nat)(K:Ctx)(sc:Scope)(σ:aA)(e:Expr):R V :=
 match gZ e with
 |some (c,as)=>if isG sc c=true∧as.any bad=false∧K.hd=false then
   (match K.init c with
   |some (some ps)=>rb (evs (ev (aA.clear σ (as.flatMap (esc F)))) as) fun vs=>if ps.length=vs.length then .exc ⟨c,ps.zip (bJ vs)⟩ else .no
   |some none=>rb (evs (ev (aA.clear σ (as.flatMap (esc F)))) as) fun vs=>if vs.length=1 then .exc ⟨c,[]⟩ else .no
   |none=>.no) else .no
 |none=>.no
noncomputable def fO:List Stmt→Option Expr
 | []=>none
 |s::r=>match r with
  | []=>(match s with | .Return o _=>o | _=>none)
  |_::_=>none
noncomputable def l0:List ExceptHandler→Option (Str×Option Str×Expr)
 | []=>none
 |h::r=>match r with
  | []=>(match h with
   | .ExceptHandler t x b _=>match t with
    |some t=>(match bB t with
     |some c=>(match fO b with | some e=>some (c,x,e) | none=>none)
     |none=>none)
    |none=>none)
  |_::_=>none
noncomputable def l7(ev ev':EV)(F:Nat)(K:Ctx)(sc:Scope)(σ:aA)(e:Expr)(c:Str)(x:Option Str)(e':Expr)(kr:KR):R V :=
 if isG sc c=true∧(K.init c).isSome=true then match ev (aA.clear σ (esc F e)) e with
  | .no=>.no
  | .ok v=>kr v
  | .exc y=>match K.sub y.cls c with
   |some true=>(match x with
    |none=>.no
    |some z=>if sc.names.lookup z=some .local then rb (ofP (cQ z (.ex y) (aA.clear σ (esc F e)))) fun σ=>rb (nx (ev' (aA.clear σ (esc F e')) e')) kr else .no)
   |_=>.no
 else .no
noncomputable def vU(ev ev':EV)(F:Nat)(K:Ctx)(sc:Scope)(rec:Stmt→aA→KN→KR→R V)(s:Stmt)(σ:aA)(kn:KN)(kr:KR):R V :=
 match s with
 | .Return o _=>(match o with | none=>kr (.fz .none) | some e=>pJ ev F sc σ e kr)
 | .Assign ts e _=>match ts with
  | []=>.no
  |t::r=>(match r with | []=>pL ev F K.hd σ t e kn | _::_=>.no)
 | .Expr e _=>pM ev F σ e kn
 | .If t b o _=>rb (tst (ev (aA.clear σ (esc F t)) t)) fun c=>if c then blk rec b (aA.clear σ (esc F t)) kn kr else blk rec o (aA.clear σ (esc F t)) kn kr
 | .For t it b o _=>match o with
  | []=>rb (eS (ev (aA.clear σ (esc F it))) K.hd sc t it) fun l=>aT (blk rec b) t l (aA.clear σ (esc F it)) kn kr
  |_::_=>.no
 | .While t b o _=>match o with
  | []=>dM (fun σ=>tst (ev σ t)) (blk rec b) fN σ kn kr
  |_::_=>.no
 | .Raise o c _=>match o with
  |some e=>(match c with | none=>lZ ev F K sc σ e | some _=>.no)
  |none=>.no
 | .Try b hs o f _=>match o with
  | []=>(match f with
   | []=>(match fO b with
    |some e=>(match l0 hs with | some (c,x,e')=>if K.hd then .no else l7 ev ev' F K sc σ e c x e' kr | none=>.no)
    |none=>.no)
   |_::_=>.no)
  |_::_=>.no
 | .Pass _=>kn σ
 |_=>.no
noncomputable def evS(ev ev':EV)(F:Nat)(K:Ctx)(sc:Scope):Nat→Stmt→aA→KN→KR→R V
 |0=>fun _ _ _ _=>.no
 |k+1=>vU ev ev' F K sc (evS ev ev' F K sc k)
noncomputable def dN(ps:List Str)(vs:List V):List (Str×NameKind)→aA
 | []=>[]
 | (x,k)::r=>match k with
  | .local=>(x,(ps.zip vs).lookup x)::dN ps vs r
  | .cell=>(x,(ps.zip vs).lookup x)::dN ps vs r
  |_=>dN ps vs r
noncomputable def cV:Nat:=24
noncomputable def hX:List Str→Bool
 | []=>true
 |x::r=>!r.contains x&&hX r
noncomputable def l8(a:Arguments)(sc:Scope):Bool :=
 a.posonlyargs.isEmpty&&a.vararg.isNone&&a.kwonlyargs.isEmpty&&a.kwarg.isNone&&a.defaults.isEmpty&&a.kw_defaults.isEmpty &&
 sc.kind==.function&&!sc.isGenerator&&!sc.isCoroutine&&hX (sc.names.map (·.1))&&hX (a.args.map (·.arg)) &&
 (sc.names.all fun p=>p.2 != .free)&&(a.args.all fun x=>match sc.names.lookup x.arg with | some .local=>true | some .cell=>true | _=>false) &&
 (sc.names.lookup (Str.ofString "__debug__")).isNone&&(sc.names.lookup (Str.ofString "__classdict__")).isNone
noncomputable def dO(body:List Stmt)(call:Str→List V→R V)(hd:Bool):Ctx :=
 ⟨call,fun f=>(dE f body).isSome,gA body,hd,eJ body,fun c=>(bE c body).map (·.2)⟩
noncomputable def run(body:List Stmt):Nat→Bool→Str→List V→R V
 |0,_,_,_=>.no
 |n+1,hd,f,vs=>match dE f body with
  |none=>.no
  |some (a,b,sc) =>
   if a.args.length=vs.length∧l8 a sc=true then
    blk (evS (evE (dO body (run body n hd) hd) cV sc) (evE (dO body (run body n true) true) cV sc) cV (dO body (run body n hd) hd) sc cV) b (dN (a.args.map (·.arg)) vs sc.names) (fun _=>.ok (.fz .none)) .ok
   else .no
end Mine
namespace Mine
open PySem
noncomputable def l9(st:Stmt):Option (Str×Str×Str) :=
 match sv st with
 | .asg ts e=>(match ts with
  | []=>none
  |t::r=>(match r with
   | []=>(jG t).bind fun c=>(bB c.1).bind fun x=>(bB e).bind fun y=>some (x,c.2.1,y)
   |_::_=>none))
 |_=>none
noncomputable def bmV:List Value:=[.type "ValueError", .type "Exception", .type "BaseException", .type "object"]
noncomputable def mB(body:List Stmt):Nat→Str→List Str
 |0,_=>[]
 |n+1,c=>match bE c body with
  |some p=>(match bE p.1 body with | some _=>p.1::mB body n p.1 | none=>[])
  |none=>[]
noncomputable def pN(h:Heap)(n:Str):Value:=(h.nsMap mainGlobals n).getD .none
noncomputable def jT(h:Heap)(bN:List Str):List Value:=bN.map (pN h)++bmV
noncomputable def pO(h:Heap)(ns:Addr)(l:List Str):Bool:=l.all fun n=>(h.nsMap ns n).isNone
noncomputable def mD(h:Heap)(l:List Str)(bN:List Str):Bool:=bN.all fun n=>match h.clsAt mainGlobals n with
 |some x=>h.isNs x.2.2.ns&&pO h x.2.2.ns l
 |none=>false
noncomputable def F6(sf:Str)(ps:List Str):FuncBody→Bool
 | .stmts b=>decide (b.map l9=ps.map fun p=>some (sf,p,p))
 |_=>false
noncomputable def pP(fd:FuncData)(ps:List Str):Bool :=
 match fd.params.args with
 | []=>false
 |a::r=>fd.params.posonlyargs.isEmpty&&fd.params.vararg.isNone&&fd.params.kwonlyargs.isEmpty&&fd.params.kwarg.isNone&&decide (r.map (·.arg)=ps)&&F6 a.arg ps fd.body&&fd.closure.isEmpty&&decide (fd.defaults=.none) &&
  decide (fd.scope.kind=.function)&&!fd.scope.isGenerator&&!fd.scope.isCoroutine&&hX (a.arg::ps)&&((a.arg::ps).all fun x=>decide (fd.scope.names.lookup x=some .local)&&!(x==("__debug__" : Str)))&&decide (ps.length < 50)
noncomputable def pQ(h:Heap)(ps:List Str)(oI:Obj):Bool:=decide (oI.cls=.type "function")&&(match oI.data with | .func fd=>h.codeRecOk fd.code fd.qualname&&pP fd ps | _=>false)
noncomputable def hid:List Str:=[Str.ofString "__getattribute__", Str.ofString "__getattr__"]
noncomputable def vV(h:Heap)(cd:ClassData)(bN:List Str):Option (List Str)→Bool
 |none=>(h.nsMap cd.ns "__init__").isNone&&mD h [Str.ofString "__init__"] bN
 |some ps=>cd.hasDict&&(match h.nsMap cd.ns "__init__" with | some (.ref fI)=>(h.get? fI).any (pQ h ps) | _=>false)&&pO h cd.ns (Str.ofString "__setattr__" :: (ps++hid))&&mD h (Str.ofString "__init__" :: Str.ofString "__setattr__" :: (ps++hid)) bN
noncomputable def mE(h:Heap)(bN:List Str)(ini:Option (List Str))(x:Addr×Obj×ClassData):Bool :=
 decide (x.2.1.cls=.type "type")&&decide (x.2.2.mro=.ref x.1::jT h bN)&&!x.2.2.hasDel&&decide (x.2.1.slots.size=6)&&decide (x.2.1.slots[4]?=some (some (.builtin "ValueError.__new__")))&&h.isNs x.2.2.ns&&vV h x.2.2 bN ini
noncomputable def F7(s:Stmt):Option Str:=match sv s with
 | .cls n _ _=>some n
 |_=>none
noncomputable def jU(body:List Stmt):List Str:=body.filterMap F7
noncomputable def vW(h:Heap)(body:List Stmt)(c:Str)(C:Addr):Bool:=(jU body).all fun d=>match h.nsMap mainGlobals d with
 |some (.ref D)=>decide ((Value.ref C::jT h (mB body 4 c)).contains (.ref D)=fM body 4 c d)
 |_=>true
noncomputable def F8(h:Heap)(body:List Stmt)(c:Str)(p:Str×Option (List Str)):Bool:=(h.clsAt mainGlobals c).any fun x=>mE h (mB body 4 c) p.2 x&&vW h body c x.1
noncomputable def pR(h:Heap)(body:List Stmt):Bool:=(jU body).all fun c=>match bE c body with
 |none=>true
 |some p=>F8 h body c p
end Mine
namespace Mine
open PySem PySem.W PyProof.Rows
noncomputable def F9(s:Stmt):Bool:=match sv s with
 | .asg ts _=>(match ts with
  | []=>true
  |t::r=>(match r with
   | []=>(bB t).elim true fun x=>!(x == "__name__")
   |_::_=>true))
 |_=>true
noncomputable def Ga(p:Program):Program:={ p with main:={ p.main with body:=p.main.body.filter F9 } }
end Mine
namespace Mine
open PySem PySem.W
noncomputable def mF(tb:String→Option Builtin)(p:Program)(w:World)(n₀:Nat)(ann:Option Value):Nat→SharedT→Thread→Option SharedT
 |0,_,_=>none
 |n+1,s,t=>match through t with
  |true=>some s
  |false=>match stepOk n₀ ann t with
   |false=>none
   |true=>match stepT (denote tb) p w s t with
    |some r=>mF tb p w n₀ ann n r.1 r.2
    |none=>none
theorem Gb{tb:String→Option Builtin}{p:Program}{w:World}{n₀:Nat}{ann:Option Value}:∀ {n:Nat} {s s':SharedT} {t:Thread},mF tb p w n₀ ann n s t=some s'→topRun tb p w n₀ ann n s.abs t=some s'.abs:=by
 intro v0
 induction v0 with
 |zero =>
  intro _ _ _ h;cases h
 |succ n ih =>
  intro s s' t h;unfold mF at h;unfold topRun;cases he:through t with
  |true=>rw[he] at h;cases h;rfl
  |false =>
   rw[he] at h;cases hk:stepOk n₀ ann t with
   |false=>rw[hk] at h;cases h
   |true =>
    rw[hk] at h;cases hs:stepT (denote tb) p w s t with
    |none=>rw[hs] at h;cases h
    |some r=>obtain⟨s₂,t₂⟩:=r;rw[hs] at h;rw[stepT_spec hs];exact ih h
noncomputable def vX(l:List Obj):BT×Nat:=l.foldl (fun x o=>(x.1.ins x.2 o,x.2+1)) (.nil,0)
noncomputable def mG(w:World)(os:OsState):SharedT:=⟨(vX (boot_heap w.params).objs.toList).1,(vX (boot_heap w.params).objs.toList).2,(boot_heap w.params).life,Array.mk [],boot_drawn,boot_toks,os⟩
noncomputable def vY{α:Type}(p q:Program)(loose:List Str)(Xt:Shared→Bool)(Yf:Shared→α)(g0:Bool)(w:World)(S:SharedT) :=
 (staticsOk (importedModules p.main.body) (boot_heap w.params) S.abs.heap&&namesBound p S.abs.heap&&gensDone S.abs&&laidKept (boot_heap w.params) S.abs.heap,openSeen q loose (importedModules p.main.body) Xt g0 S.abs,Yf S.abs)
theorem Gc{p q:Program}{loose:List Str}{Xt:Shared→Bool}{α:Type}{Yf:Shared→α}{Ya:World→α}{N:Nat}{g0:Bool}
  (ho:∀ w:World,(fencedOpening treeTable p w N).map (fun s=>(s.heap,s.gens,s.drawn,s.toks))=some (boot_heap w.params,Array.mk [],boot_drawn,boot_toks))
  (hb:∀ w os,(mG w os).abs=⟨boot_heap w.params,Array.mk [],boot_drawn,boot_toks,os⟩) (hns:∀ w:World,(boot_heap w.params).isNs mainGlobals=true)
  (hr:∀ (w:World) (os:OsState),(mF treeTable p w (boot_heap w.params).objs.size ((boot_heap w.params).nsMap mainGlobals "__annotations__") N (mG w os) (topStub p)).map (vY p q loose Xt Yf g0 w)=some (true,openGood q loose,Ya w)):LeftO p q loose Xt Yf Ya N g0:=fun w=>by
 obtain⟨s,hs,hv⟩:=Option.map_eq_some_iff.mp (ho w);obtain⟨S,h1,h2⟩:=Option.map_eq_some_iff.mp (hr w s.os);have e:s=(mG w s.os).abs:=by
  rw[hb];obtain⟨h,g,d,t,os⟩:=s;cases hv;rfl
 have h3:=Gb h1;rw[← e] at h3;have eh:s.heap=boot_heap w.params:=congrArg (·.1) hv;have eg:s.gens=Array.mk []:=congrArg (·.2.1) hv;unfold openEnds;rw[hs];show(topFrom treeTable p w N s).map _=_;unfold topFrom;rw[eh,eg,hns w];unfold vY at h2;obtain⟨k1,k2⟩:=Prod.mk.inj h2;show((topRun treeTable p w (boot_heap w.params).objs.size ((boot_heap w.params).nsMap mainGlobals "__annotations__") N s (topStub p)).bind _).map _=_;rw[h3];show(match (staticsOk (importedModules p.main.body) (boot_heap w.params) S.abs.heap&&namesBound p S.abs.heap&&gensDone S.abs&&laidKept (boot_heap w.params) S.abs.heap) with | true=>some S.abs | false=>none).map _=_;rw[k1];exact congrArg some k2
end Mine
set_option Elab.async false
namespace Mine
open PySem PySem.W PyProof.Rows
noncomputable def V12:Program:=Ga PySem.Challenge.rw_uf010037_12.prog
set_option maxRecDepth 100000 in
set_option maxHeartbeats 8000000 in
theorem Gd:∀ w os,(mG w os).abs=⟨boot_heap w.params,Array.mk [],boot_drawn,boot_toks,os⟩:=fun w os=>by kernel_rfl
set_option maxRecDepth 100000 in
theorem Ge:∀ w:World,(boot_heap w.params).isNs mainGlobals=true:=fun w=>by kernel_rfl
set_option maxRecDepth 100000 in
theorem Gf:∀ w:World,(fencedOpening treeTable PySem.Challenge.rw_uf010037_12.row.prog w 3960).map (fun s=>(s.heap,s.gens,s.drawn,s.toks))=some (boot_heap w.params,Array.mk [],boot_drawn,boot_toks) :=
 boot_open (by kernel_rfl) (by kernel_rfl) fun s=>by kernel_rfl
end Mine
set_option Elab.async false
namespace Mine
open PySem PySem.W PyProof.Rows
set_option maxRecDepth 100000 in
set_option maxHeartbeats 8000000 in
theorem Gg:LeftO PySem.Challenge.rw_uf010037_12.row.prog V12 [] (fun s=>(xlAt V12 [] s&&recOk (RowW.records PySem.Challenge.rw_uf010037_12.row.toRowW) s)&&pR s.heap PySem.Challenge.rw_uf010037_12.row.prog.main.body) (Hook.obs Hook.none) (Hook.val Hook.none) 3960 :=
 Gc Gf Gd Ge fun w os=>by kernel_rfl
end Mine
namespace Mine
open PySem
noncomputable def Vw(e:Expr):EW→Prop
 | .name x=>∃ p,e=.Name x p
 | .tup es=>∃ k p,e=.Tuple es k p
 | .call f as kws q=>e=.Call f as kws q
 | .attr o m p=>e=.Attribute o m p
 | .sub o i=>∃ p,e=.Subscript o i p
 | .slice a b c=>∃ p,e=.Slice a b c p
 |_=>True
theorem Gh(e:Expr):Vw e (vw e):=by
 cases e<;>first | exact trivial | exact⟨_,rfl⟩ | exact⟨_,_,rfl⟩ | exact rfl
theorem cE{e:Expr}{v:EW}(h:vw e=v):Vw e v:=h▸Gh e
theorem ob{α β:Type}{o:Option α}{f:α→Option β}{b:β}(h:o.bind f=some b):∃ a,o=some a∧f a=some b:=by
 cases o with
 |none=>cases h
 |some a=>exact⟨a,rfl,h⟩
theorem Gi{α:Type}{kws:List Keyword}{a b:α}(h:oZ kws a=some b):kws=[]∧a=b:=by
 cases kws with
 |nil=>cases h;exact⟨rfl,rfl⟩
 |cons=>cases h
theorem cW{e:Expr}{x:Str}(h:bB e=some x):∃ p,e=.Name x p:=by
 unfold bB at h;generalize hv:vw e=v at h;cases v with
 |name y=>cases h;exact cE hv
 |_=>cases h
theorem pS{e:Expr}{c:Expr×List Expr×List Keyword×Pos}(h:f8 e=some c):e=.Call c.1 c.2.1 c.2.2.1 c.2.2.2:=by
 unfold f8 at h;generalize hv:vw e=v at h;cases v with
 |call f as kws q=>cases h;exact cE hv
 |_=>cases h
theorem vZ{e:Expr}{c:Expr×Str×Pos}(h:jG e=some c):e=.Attribute c.1 c.2.1 c.2.2:=by
 unfold jG at h;generalize hv:vw e=v at h;cases v with
 |attr o m p=>cases h;exact cE hv
 |_=>cases h
theorem Gj{e:Expr}{c:Option Expr×Option Expr×Option Expr}(h:jP e=some c):∃ p,e=.Slice c.1 c.2.1 c.2.2 p:=by
 unfold jP at h;generalize hv:vw e=v at h;cases v with
 |slice=>cases h;exact cE hv
 |_=>cases h
theorem eK{e:Expr}{env:Env}{es:List Expr}(h:bad e=false):starEach (e::es) env=(false,eval e env)::starEach es env:=by
 cases e<;>first | rfl | cases h
theorem Gk{op:CmpOp}{e:Expr}{t:Sem Value}(h:bad e=false):markedBehindIn op e t=t:=by
 refine markedBehindIn_of_false ?_;cases e<;>first | rfl | cases h
theorem Gl{e:Expr}{o i:Value}(h:bad e=false):subscripted e false o i=operate [o,i] (PySem.getItem o i):=by
 cases e<;>first | rfl | cases h
theorem eL{α:Type}{e:Expr}{r:R α}(hb:bad e=true→r=.no)(h:r≠.no):bad e=false:=by
 cases e':bad e with
 |false=>rfl
 |true=>exact absurd (hb e') h
theorem wA{e:Expr}{c:Str×List Expr}(h:gZ e=some c):∃ p q,e=.Call (.Name c.1 p) c.2 [] q:=by
 obtain⟨⟨f,as,kws,q⟩,h1,h⟩:=ob h;obtain⟨x,h2,h⟩:=ob h;obtain⟨rfl,rfl⟩:=Gi h;obtain⟨p,rfl⟩:=cW h2;exact⟨p,q,pS h1⟩
end Mine
namespace Mine
open PySem
noncomputable def PlT(h:Heap)(a:Addr)(vs:Array Value):Prop:=∃ n,h.get? a=some { cls:=.type "tuple", data:=.seq vs n }
theorem PlT.isTuple{h:Heap}{a:Addr}{vs:Array Value}(x:PlT h a vs):h.IsTuple a vs:=by obtain⟨n,e⟩:=x;exact⟨_,e,rfl,n,rfl⟩
theorem PlT.at{h h':Heap}{a:Addr}{vs:Array Value}(x:PlT h a vs)(hk:∀ o,h.get? a=some o→h'.get? a=some o):PlT h' a vs:=by obtain⟨n,e⟩:=x;exact⟨n,hk _ e⟩
section
variable (prog:Program) (w:World)
inductive Rep(h:Heap)(av:Addr→Prop):Value→PyData→Prop where
 |none:Rep h av .none .none
 |bool (b:Bool):Rep h av (.bool b) (.bool b)
 |int (i:Int) (t:Tok):Rep h av (.int i t) (.int i)
 |str (x:Str) (t:Tok):x.length≤sizeLine→Rep h av (.str x t) (.str x)
 |list {a:Addr} {vs:List Value} {ds:List PyData}:¬ av a→h.PlainList a vs.toArray→vs.length=ds.length→vs.length≤sizeLine →
   (∀ (i:Nat) (v:Value) (d:PyData),vs[i]?=some v→ds[i]?=some d→Rep h av v d)→Rep h av (.ref a) (.list ds)
 |tuple {a:Addr} {vs:List Value} {ds:List PyData}:¬ av a→PlT h a vs.toArray→vs.length=ds.length→vs.length≤sizeLine →
   (∀ (i:Nat) (v:Value) (d:PyData),vs[i]?=some v→ds[i]?=some d→Rep h av v d)→Rep h av (.ref a) (.tuple ds)
 |dict {a:Addr} {kvs:List (Str×Value)} {ds:List (PyData×PyData)}:¬ av a→h.DictOf (strKind prog w) a kvs→(kvs.length≤sizeLine∧∀ kv∈kvs,kv.1.length≤sizeLine)→(a==sysModules)=false →
   ds.map (·.1)=kvs.map (fun kv=>PyData.str kv.1)→(∀ (i:Nat) (kv:Str×Value) (d:PyData×PyData),kvs[i]?=some kv→ds[i]?=some d→Rep h av kv.2 d.2) →
   Rep h av (.ref a) (.dict ds)
variable {prog w}
theorem Rep.mono{h h':Heap}{av av':Addr→Prop}(hk:∀ b o,¬ av b→h.get? b=some o→h'.get? b=some o)(ha:∀ b o,h.get? b=some o→av' b→av b){v:Value}{d:PyData}(r:Rep prog w h av v d) :
  Rep prog w h' av' v d:=by
 induction r with
 |none=>exact .none
 |bool b=>exact .bool b
 |int i t=>exact .int i t
 |str x t hx=>exact .str x t hx
 |list h1 h2 h3 h4 _ ih=>exact .list (fun x=>h1 (by obtain⟨_,e⟩:=h2;exact ha _ _ e x)) (h2.at fun o e=>hk _ o h1 e) h3 h4 ih
 |tuple h1 h2 h3 h4 _ ih=>exact .tuple (fun x=>h1 (by obtain⟨_,e⟩:=h2;exact ha _ _ e x)) (h2.at fun o e=>hk _ o h1 e) h3 h4 ih
 |dict h1 h2 h3 h4 h5 _ ih =>
  obtain⟨o,es,ep,e,r⟩:=h2;exact .dict (fun x=>h1 (ha _ _ e x)) ⟨o,es,ep,hk _ o h1 e,r⟩ h3 h4 h5 ih
theorem Rep.keeps{h h':Heap}{av:Addr→Prop}(hk:∀ b o,h.get? b=some o→h'.get? b=some o){v:Value}{d:PyData}(r:Rep prog w h av v d):Rep prog w h' av v d :=
 r.mono (fun b o _ e=>hk b o e) fun _ _ _ x=>x
variable (prog w)
inductive BodyL(h:Heap)(av:Addr→Prop)(a:Addr)(ds:List PyData):Prop where
 |mk (vs:List Value) (p:h.PlainList a vs.toArray) (l:vs.length=ds.length) (z:vs.length≤sizeLine) (r:∀ (i:Nat) (v:Value) (d:PyData),vs[i]?=some v→ds[i]?=some d→Rep prog w h av v d):BodyL h av a ds
inductive BodyD(h:Heap)(av:Addr→Prop)(a:Addr)(ds:List (PyData×PyData)):Prop where
 |mk (kvs:List (Str×Value)) (p:h.DictOf (strKind prog w) a kvs) (z:kvs.length≤sizeLine∧∀ kv∈kvs,kv.1.length≤sizeLine) (m:(a==sysModules)=false) (l:ds.map (·.1)=kvs.map (fun kv=>PyData.str kv.1))
  (r:∀ (i:Nat) (kv:Str×Value) (d:PyData×PyData),kvs[i]?=some kv→ds[i]?=some d→Rep prog w h av kv.2 d.2):BodyD h av a ds
noncomputable def bI(h:Heap)(av:Addr→Prop)(a:Addr):PyData→Prop
 | .list ds=>BodyL prog w h av a ds
 | .dict ds=>BodyD prog w h av a ds
 |_=>False
variable {prog w}
theorem bI.mono{h h':Heap}{av av':Addr→Prop}{a:Addr}(hk:∀ b o,¬ av b→h.get? b=some o→h'.get? b=some o)(ha:∀ b o,h.get? b=some o→av' b→av b)(hs:∀ o,h.get? a=some o→h'.get? a=some o)
  {d:PyData} (r:bI prog w h av a d):bI prog w h' av' a d:=by
 cases d with
 |list ds=>obtain⟨vs,h1,h2,h3,h4⟩:=r;exact⟨vs,h1.at hs,h2,h3,fun i v d e1 e2=>(h4 i v d e1 e2).mono hk ha⟩
 |dict ds =>
  obtain⟨kvs,⟨o,es,ep,e,r⟩,h2,h3,h4,h5⟩:=r;exact⟨kvs,⟨o,es,ep,hs _ e,r⟩,h2,h3,h4,fun i v d e1 e2=>(h5 i v d e1 e2).mono hk ha⟩
 |_=>exact r.elim
theorem bI.rep{h:Heap}{av:Addr→Prop}{a:Addr}{d:PyData}(ha:¬ av a)(r:bI prog w h av a d):Rep prog w h av (.ref a) d:=by
 cases d with
 |list ds=>obtain⟨vs,h1,h2,h3,h4⟩:=r;exact .list ha h1 h2 h3 h4
 |dict ds=>obtain⟨kvs,h1,h2,h3,h4,h5⟩:=r;exact .dict ha h1 h2 h3 h4 h5
 |_=>exact r.elim
variable (prog w)
noncomputable def Own(s:Shared)(h:Heap)(av:Addr→Prop)(v:Value)(d:PyData):Prop :=
 ∃ a,v=.ref a∧s.heap.get? a=none∧bI prog w h (fun b=>av b∨b=a) a d
noncomputable def aY(s:Shared)(h:Heap)(av:Addr→Prop)(v:Value):V→Prop
 | .fz d=>Rep prog w h av v d
 | .own d=>Own prog w s h av v d
 | .ex _=>False
variable {prog w}
theorem Own.rep{s:Shared}{h:Heap}{av:Addr→Prop}{v:Value}{d:PyData}(hlt:∀ b,av b→∃ o,s.heap.get? b=some o)(r:Own prog w s h av v d):Rep prog w h av v d:=by
 obtain⟨a,rfl,ha,r⟩:=r;exact bI.rep (fun x=>by obtain⟨o,e⟩:=hlt _ x;rw[ha] at e;exact ns e) (r.mono (fun _ _ x e=>e) (fun _ _ _ x=>.inl x) fun _ e=>e)
theorem aY.rep{s:Shared}{h:Heap}{av:Addr→Prop}{v:Value}{u:V}(hlt:∀ b,av b→∃ o,s.heap.get? b=some o)(r:aY prog w s h av v u):Rep prog w h av v (dOf u):=by
 cases u with
 |fz d'=>exact r
 |own d'=>exact Own.rep hlt r
 |ex x=>exact r.elim
noncomputable def Kp(s s':Shared):Prop:=Keeps s s'
theorem Kp.rfl'(s:Shared):Kp s s:=⟨s.heap,s.toks,rfl,fun _ _ e=>e⟩
theorem Kp.tr{s s' s'':Shared}(x:Kp s s')(y:Kp s' s''):Kp s s'':=by
 obtain⟨h,t,rfl,k⟩:=x;obtain⟨h',t',rfl,k'⟩:=y;exact⟨h',t',rfl,fun b o e=>k' b o (k b o e)⟩
theorem Kp.heap{s s':Shared}(x:Kp s s'):∀ b o,s.heap.get? b=some o→s'.heap.get? b=some o:=by
 obtain⟨h,t,rfl,k⟩:=x;exact k
theorem Kp.tok'(s:Shared)(t:Nat):Kp s { s with toks:=t }:=⟨s.heap,t,rfl,fun _ _ e=>e⟩
theorem Kp.push'(s:Shared)(o:Obj):Kp s { s with heap:=s.heap.push o }:=⟨s.heap.push o,s.toks,rfl,fun _ _ e=>Heap.get?_push_of_some o e⟩
end
abbrev WP(γ:Type):=(γ→Shared→Prop)→(Value→Shared→Prop)→Prop
noncomputable def Yd{γ β:Type}(W:WP γ)(R:γ→Shared→β→Prop):P β→Prop
 | .no=>True
 | .ok b=>∀ Q E,(∀ v s',R v s' b→Q v s')→W Q E
theorem Yd.pureBind{γ β β':Type}{W:WP γ}{R:γ→Shared→β'→Prop}{p:P β}{f:β→P β'}(k:∀ b,p=.ok b→Yd W R (f b)):Yd W R (p.bind f):=by
 cases p with
 |no=>exact trivial
 |ok b=>exact k b rfl
theorem Yd.optBind{γ β β':Type}{W:WP γ}{R:γ→Shared→β'→Prop}{p:Option β}{f:β→P β'}(k:∀ b,p=some b→Yd W R (f b)):Yd W R ((ofO p).bind f):=by
 cases p with
 |none=>exact trivial
 |some b=>exact k b rfl
theorem Yd.ite{γ β:Type}{W:WP γ}{R:γ→Shared→β→Prop}{c:Prop}[Decidable c]{p:P β}(k:c→Yd W R p):Yd W R (if c then p else .no):=by
 by_cases h:c
 ·rw[if_pos h];exact k h
 ·rw[if_neg h];exact trivial
theorem Yd.ite2{γ β:Type}{W:WP γ}{R:γ→Shared→β→Prop}{c:Prop}[Decidable c]{p q:P β}(k:c→Yd W R p)(k':¬ c→Yd W R q):Yd W R (if c then p else q):=by
 by_cases h:c
 ·rw[if_pos h];exact k h
 ·rw[if_neg h];exact k' h
end Mine
namespace Mine
open PySem
noncomputable def frs(l:List Env)(b:Addr):Prop:=b∈l.filterMap (·.frame)
inductive K(l:List Env)(s s':Shared):Prop where
 |mk (h:Heap) (t:Nat) (e:s'={ s with heap:=h,toks:=t }) (k:∀ b o,¬ frs l b→s.heap.get? b=some o→h.get? b=some o) (u:∀ b o,s.heap.get? b=some o→∃ sl,h.get? b=some { o with slots:=sl }):K l s s'
theorem K.of{l:List Env}{s s':Shared}(x:Kp s s'):K l s s':=by
 obtain⟨h,t,rfl,k⟩:=x;exact⟨h,t,rfl,fun b o _ e=>k b o e,fun b o e=>⟨o.slots,k b o e⟩⟩
theorem K.rf(l:List Env)(s:Shared):K l s s:=K.of (Kp.rfl' s)
theorem K.tr{l:List Env}{s s' s'':Shared}(x:K l s s')(y:K l s' s''):K l s s'':=by
 obtain⟨h,t,rfl,k,u⟩:=x;obtain⟨h',t',rfl,k',u'⟩:=y;exact⟨h',t',rfl,fun b o n e=>k' b o n (k b o n e),fun b o e=>by obtain⟨_,e1⟩:=u b o e;exact by obtain⟨sl,e2⟩:=u' b _ e1;exact⟨sl,e2⟩⟩
theorem K.trp{l:List Env}{s s' s'':Shared}(x:K l s s')(y:Kp s' s''):K l s s'':=x.tr (K.of y)
theorem K.at{l:List Env}{s s':Shared}(x:K l s s'){b:Addr}{o:Obj}(n:¬ frs l b)(e:s.heap.get? b=some o):s'.heap.get? b=some o:=by
 obtain⟨h,t,rfl,k,u⟩:=x;exact k b o n e
theorem K.up{l:List Env}{s s':Shared}(x:K l s s'){b:Addr}{o:Obj}(e:s.heap.get? b=some o):∃ sl,s'.heap.get? b=some { o with slots:=sl }:=by
 obtain⟨h,t,rfl,k,u⟩:=x;exact u b o e
theorem K.upTo{l:List Env}{s s':Shared}(x:K l s s'):s.heap.UpToSlots s'.heap:=fun _ _ e _=>x.up e
theorem K.non{l:List Env}{s s':Shared}(x:K l s s'){b:Addr}(e:s'.heap.get? b=none):s.heap.get? b=none:=by
 refine ocs (s.heap.get? b) (fun h=>?_) fun o h=>?_
 ·try rewrite[h]
  rfl
 ·try rewrite[h]
  obtain⟨sl,e'⟩:=x.up h;rw[e] at e';cases e'
noncomputable def Fin{α β:Type}(r:R α)(k:α→R β)(fin:R β):Prop:=rb r k=fin∧fin≠.no
theorem pT{α β γ:Type}(p:R α)(f:α→R β)(g:β→R γ):rb (rb p f) g=rb p fun a=>rb (f a) g:=by cases p<;>rfl
theorem Fin.b{α β γ:Type}{r:R α}{f:α→R γ}{k:γ→R β}{fin:R β}(h:Fin (rb r f) k fin):Fin r (fun a=>rb (f a) k) fin:=⟨(pT r f k)▸h.1,h.2⟩
theorem Fin.unb{α β γ:Type}{r:R α}{f:α→R γ}{k:γ→R β}{fin:R β}(h:Fin r (fun a=>rb (f a) k) fin):Fin (rb r f) k fin:=⟨(pT r f k).symm▸h.1,h.2⟩
theorem Fin.no{α β:Type}{k:α→R β}{fin:R β}(h:Fin (.no:R α) k fin):False:=h.2 h.1.symm
theorem Fin.ne{α β:Type}{r:R α}{k:α→R β}{fin:R β}(h:Fin r k fin):r≠.no:=fun e=>by subst e;exact h.no
theorem Fin.ok{α β:Type}{a:α}{k:α→R β}{fin:R β}(h:Fin (.ok a) k fin):k a=fin:=h.1
theorem Fin.p{α β:Type}{p:P α}{k:α→R β}{fin:R β}(h:Fin (ofP p) k fin):∃ a,p=.ok a∧k a=fin:=by
 cases p with
 |no=>exact h.no.elim
 |ok a=>exact⟨a,rfl,h.1⟩
theorem Fin.ite{α β:Type}{c:Prop}[Decidable c]{r:R α}{k:α→R β}{fin:R β}(h:Fin (if c then r else .no) k fin):c∧Fin r k fin:=by
 by_cases hc:c
 ·rw[if_pos hc] at h;exact⟨hc,h⟩
 ·rw[if_neg hc] at h;exact h.no.elim
theorem Yd.fin{γ α β:Type}{W:WP γ}{C:γ→Shared→α→Prop}{p:P α}{k:α→R β}{fin:R β}{Q:γ→Shared→Prop}{E:Value→Shared→Prop}(h:Yd W C p)(hf:Fin (ofP p) k fin)(hq:∀ v s' a,C v s' a→k a=fin→Q v s'):W Q E:=by
 obtain⟨a,rfl,e⟩:=hf.p;exact h Q E fun v s' c=>hq v s' a c e
section
variable (prog:Program) (w:World) (mg mb:Str→Option Value) (base:Heap)
noncomputable def pU:List (Str×Value):=[("isinstance", .builtin "isinstance"),("len", .builtin "len"),("all", .builtin "all"),("sorted", .builtin "sorted"),("abs", .builtin "abs"),("min", .builtin "min"),("repr", .builtin "repr"),("list", .type "list"),("tuple", .type "tuple"),("dict", .type "dict"),("set", .type "set"),("int", .type "int"),("str", .type "str"),("bool", .type "bool"),("range", .type "range"),("enumerate", .type "enumerate"),("reversed", .type "reversed"),("zip", .type "zip")]
noncomputable def hY(x:Str):Option Value:=pU.lookup x
inductive FldsA(h:Heap)(av:Addr→Prop)(od:Option Addr)(fs:List (Str×PyData)):Prop where
 |mk (d:Addr) (m:Str→Option Value) (e:od=some d) (n:¬ av d) (hn:h.Ns d m) (r:∀ p x,(p,x)∈fs→∃ v,m p=some v∧Rep prog w h av v x):FldsA h av od fs
noncomputable def eT(h:Heap)(av:Addr→Prop)(od:Option Addr)(fs:List (Str×PyData)):Prop:=fs=[]∨FldsA prog w h av od fs
inductive ExAt(h:Heap)(av:Addr→Prop)(e:Addr)(x:X):Prop where
 |mk (na:¬ av e) (o:Obj) (vs:Array Value) (C:Addr) (he:h.get? e=some o) (hd:o.data=.fields vs) (hc:o.cls=.ref C) (hm:mg x.cls=some (.ref C)) (hx:eT prog w h av o.dict x.fields):ExAt h av e x
noncomputable def bV(l:List Env)(h:Heap)(av:Addr→Prop)(v:Value):V→Prop
 | .fz d=>Rep prog w h av v d
 | .own d=>∃ a,v=.ref a∧¬ frs l a∧bI prog w h av a d
 | .ex x=>∃ e,v=.ref e∧ExAt prog w mg h av e x
inductive MadeF(s s':Shared)(dx:Option Addr)(ps:List Str)(vals:List Value):Prop where
 |mk (d:Addr) (m:Str→Option Value) (e:dx=some d) (n:s.heap.get? d=none) (hn:s'.heap.Ns d m) (r:∀ (i:Nat) p v,ps[i]?=some p→vals[i]?=some v→m p=some v):MadeF s s' dx ps vals
inductive MadeAt(s:Shared)(C:Addr)(ini:Option (List Str))(vals:List Value)(v:Value)(s':Shared):Prop where
 |mk (k:Kp s s') (e:Addr) (dx:Option Addr) (t:Addr) (ve:v=.ref e) (n:s.heap.get? e=none) (he:s'.heap.get? e=some { cls:=.ref C,dict:=dx,data:=.fields #[.ref t,.none,.none,.none,.bool false,.none] })
  (f:∀ ps,ini=some ps→ps=[]∨MadeF s s' dx ps vals):MadeAt s C ini vals v s'
noncomputable def wB(ini:Option (List Str))(n:Nat):Prop :=
 match ini with
 |some ps=>ps.length=n
 |none=>n=1
inductive ClsObj(base:Heap)(C:Addr)(bm:List Value):Prop where
 |mk (nm q N bs hdct sn sub ab col dd k0 k1 k2 k3 k5 newId) (h:base.get? C=some (excClassObj nm q C N bs bm hdct sn sub ab col dd k0 k1 k2 k3 k5 newId)):ClsObj base C bm
structure ClsOk(C:Addr)(bm:List Value)(ini:Option (List Str)):Prop where
 obj:ClsObj base C bm
 exc:bm.contains (.type "BaseException")=true
 val:bm.contains (.type "ValueError")=true
 make:∀ (A:Around) (vals:List Value) (s:Shared) (E Q:Value→Shared→Prop),A.depth+1 < recursionLimit→(∀ b o,base.get? b=some o→s.heap.get? b=some o)→wB ini vals.length→(∀ v s',MadeAt s C ini vals v s'→Q v s')→wpAny (model prog w) A (call (.ref C) vals) Q E s
 fld:∀ ps,ini=some ps→∀ p∈ps,∀ (A:Around) (s:Shared) (e dx:Addr) (o:Obj) (vs:Array Value) (m:Str→Option Value) (v:Value) (E Q:Value→Shared→Prop),(∀ b o,base.get? b=some o→s.heap.get? b=some o)→s.heap.get? e=some o→o.cls=.ref C→o.data=.fields vs→o.dict=some dx→s.heap.Ns dx m→m p=some v→handedOut v=pure v→(∀ tk,Q v { s with toks:=tk })→wpAny (model prog w) A (getAttr (.ref e) p true) Q E s
structure Glo:Prop where
 g:base.Ns mainGlobals mg
 b:base.Ns builtinsNs mb
 nolimit:base.NoLimit
 mods:∃ mm,base.Ns sysModules mm
 fn:∀ f a b sc,dE f prog.main.body=some (a,b,sc)→∃ ad o pm cd doc,mg f=some (.ref ad)∧base.get? ad=some o∧o.data=.func (Calls.docDef f a b sc pm cd doc)∧base.CodeRec cd f
 const:∀ x d,gA prog.main.body x=some d→∃ v,mg x=some v∧∀ h' av,Rep prog w h' av v d
 blt:∀ x v,hY x=some v→mg x=none∧mb x=some v
 cls:∀ c p,bE c prog.main.body=some p→∃ C bm,mg c=some (.ref C)∧ClsOk prog w base C bm p.2∧∀ d q D,bE d prog.main.body=some q→mg d=some (.ref D)→(Value.ref C::bm).contains (.ref D)=fM prog.main.body 4 c d
structure Room(n:Nat)(hd:Bool)(l:List Env)(A:Around):Prop where
 depth:A.depth+n+1 < recursionLimit
 units:A.units+16*n+300 < cLine
 handled:hd=false→A.handled=none
 guards:A.guards=some []
 frames:A.frames=some l
noncomputable def aW(env:Env)(h:Heap)(x:Str)(u:Value):Prop :=
 (env.kindOf x=some .local∧∃ m,h.Ns env.locals m∧m x=some u) ∨
 ((env.kindOf x=some .cell∨env.kindOf x=some .free)∧∃ c,env.cells.lookup x=some c∧h.IsCell c (some u))
structure Gnd(l:List Env)(av:Addr→Prop)(s:Shared):Prop where
 glo:Glo prog w mg mb base
 stay:∀ b o,base.get? b=some o→s.heap.get? b=some o
 ff:s.heap.FunFrames base l
 fav:∀ b,frs l b→av b
 avlt:∀ b,av b→∃ o,s.heap.get? b=some o
 avS:av sysModules
structure Inv0(l:List Env)(env:Env)(sc:Scope)(σ:aA)(av:Addr→Prop)(s:Shared):Prop where
 gnd:Gnd prog w mg mb base l av s
 kind:env.scope.kind=.function
 eg:env.globals=mainGlobals
 eb:env.builtins=builtinsNs
 dbg:sc.names.lookup (Str.ofString "__debug__")=none
 cld:sc.names.lookup (Str.ofString "__classdict__")=none
 glob:∀ x,isG sc x=true→env.kindOf x=some .globalImplicit
 kinds:∀ x,lN (sc.names.lookup x)=true→lN (env.kindOf x)=true∧∃ c,env.cells.lookup x=some c
 get:∀ x v,isL sc x=true→aA.get σ x=some (some v)→∃ u,aW env s.heap x u∧bV prog w mg l s.heap av u v
inductive Tb(s:Shared)(h:Heap)(e:Addr)(fl:Value):Prop where
 |mk (oe vs T oT ts) (a:h.get? e=some oe) (b:oe.data=.fields vs) (c:vs[1]?=some (.ref T)) (d:s.heap.get? T=none) (f:T≠e) (g:h.get? T=some oT) (i:oT.data=.fields ts) (j:ts[3]?=some fl):Tb s h e fl
inductive Fly(l:List Env)(s:Shared)(av:Addr→Prop)(x:X)(v:Value)(s':Shared):Prop where
 |mk (k:K l s s') (e:Addr) (a:v=.ref e) (b:s.heap.get? e=none) (c:ExAt prog w mg s'.heap av e x) (d:Tb s s'.heap e .none):Fly l s av x v s'
noncomputable def QH{β:Type}(l:List Env)(s:Shared)(av:Addr→Prop)(k:V→R β)(fin:R β)(Q:Value→Shared→Prop):Prop :=
 ∀ v s' u,K l s s'→aY prog w s s'.heap av v u→k u=fin→Q v s'
noncomputable def EH{β:Type}(l:List Env)(s:Shared)(av:Addr→Prop)(fin:R β)(E:Value→Shared→Prop):Prop :=
 ∀ x v s',fin=.exc x→Fly prog w mg l s av x v s'→E v s'
noncomputable def aE(n:Nat)(hd:Bool)(l:List Env)(sc:Scope)(σ:aA)(e:Expr)(r:R V):Prop :=
 ∀ (A:Around) (env:Env) (s:Shared) (av:Addr→Prop),Room n hd l A→Inv0 prog w mg mb base l env sc σ av s →
  ∀ {β:Type} {k:V→R β} {fin:R β} {Q:Value→Shared→Prop} {E:Value→Shared→Prop},Fin r k fin→QH prog w l s av k fin Q→EH prog w mg l s av fin E→wpAny (model prog w) A (eval e env) Q E s
variable {prog w mg mb base}
theorem Rep.k{l:List Env}{s s':Shared}{av:Addr→Prop}(fav:∀ b,frs l b→av b)(k:K l s s'){v:Value}{d:PyData}(r:Rep prog w s.heap av v d):Rep prog w s'.heap av v d :=
 r.mono (fun _ _ n e=>k.at (fun f=>n (fav _ f)) e) fun _ _ _ x=>x
theorem bI.k{l:List Env}{s s':Shared}{av:Addr→Prop}(fav:∀ b,frs l b→av b)(k:K l s s'){a:Addr}{d:PyData}(n:¬ frs l a)(r:bI prog w s.heap av a d):bI prog w s'.heap av a d :=
 r.mono (fun _ _ n e=>k.at (fun f=>n (fav _ f)) e) (fun _ _ _ x=>x) fun _ e=>k.at n e
theorem eT.mono{h h':Heap}{av av':Addr→Prop}(hk:∀ b o,¬ av b→h.get? b=some o→h'.get? b=some o)(ha:∀ b o,h.get? b=some o→av' b→av b){od:Option Addr}{fs:List (Str×PyData)}(r:eT prog w h av od fs):eT prog w h' av' od fs:=by
 rcases r with r | ⟨d,m,e,n,hn,r⟩
 ·exact .inl r
 ·obtain⟨o,es,ep,ho,hr⟩:=hn;refine .inr ⟨d,m,e,fun x=>n (ha _ _ ho x),⟨o,es,ep,hk _ _ n ho,hr⟩,fun p x hp=>?_⟩;obtain⟨v,e1,e2⟩:=r p x hp;exact⟨v,e1,e2.mono hk ha⟩
theorem ExAt.mono{h h':Heap}{av av':Addr→Prop}(hk:∀ b o,¬ av b→h.get? b=some o→h'.get? b=some o)(ha:∀ b o,h.get? b=some o→av' b→av b){e:Addr}{x:X}(r:ExAt prog w mg h av e x):ExAt prog w mg h' av' e x:=by
 obtain⟨h1,o,vs,C,h2,h3,h4,h5,h6⟩:=r;exact⟨fun x=>h1 (ha _ _ h2 x),o,vs,C,hk _ _ h1 h2,h3,h4,h5,h6.mono hk ha⟩
theorem bV.k{l:List Env}{s s':Shared}{av:Addr→Prop}(fav:∀ b,frs l b→av b)(k:K l s s'){v:Value}{u:V}(r:bV prog w mg l s.heap av v u):bV prog w mg l s'.heap av v u:=by
 cases u with
 |fz d=>exact Rep.k fav k r
 |own d=>obtain⟨a,e,n,r⟩:=r;exact⟨a,e,n,r.k fav k n⟩
 |ex x=>obtain⟨e,h,r⟩:=r;exact⟨e,h,r.mono (fun _ _ n e=>k.at (fun f=>n (fav _ f)) e) fun _ _ _ x=>x⟩
theorem aW.k{l:List Env}{s s':Shared}(k:K l s s'){env:Env}{x:Str}{u:Value}(v:aW env s.heap x u):aW env s'.heap x u:=by
 rcases v with ⟨h1,m,hn,e⟩ | ⟨h1,c,e,o,hc⟩
 ·exact .inl ⟨h1,m,k.upTo.ns hn,e⟩
 ·exact .inr ⟨h1,c,e,by obtain⟨sl,e⟩:=k.up hc.1;exact⟨_,e,hc.2⟩⟩
theorem Gnd.k{l:List Env}{s s':Shared}{av:Addr→Prop}(I:Gnd prog w mg mb base l av s)(k:K l s s'):Gnd prog w mg mb base l av s' where
 glo:=I.glo
 stay:=fun b o e=>k.at (fun f=>by rw[(I.ff.mem f).1] at e;exact ns e) (I.stay b o e)
 ff:=I.ff.of_keeps fun b o e _=>by obtain⟨_,e'⟩:=k.up e;exact⟨_,e',rfl⟩
 fav:=I.fav
 avlt:=fun b hb=>by obtain⟨_,e⟩:=I.avlt b hb;exact by obtain⟨_,e'⟩:=k.up e;exact⟨_,e'⟩
 avS:=I.avS
theorem Inv0.k{l:List Env}{env:Env}{sc:Scope}{σ:aA}{av:Addr→Prop}{s s':Shared}(I:Inv0 prog w mg mb base l env sc σ av s)(k:K l s s'):Inv0 prog w mg mb base l env sc σ av s' :=
 { I with gnd:=I.gnd.k k,get:=fun x v hl e=>by obtain⟨u,h1,h2⟩:=I.get x v hl e;exact⟨u,h1.k k,h2.k I.gnd.fav k⟩ }
theorem aY.back{l:List Env}{s s':Shared}{h:Heap}{av:Addr→Prop}{v:Value}{u:V}(k:K l s s')(r:aY prog w s' h av v u):aY prog w s h av v u:=by
 cases u with
 |fz d=>exact r
 |own d=>obtain⟨a,e,hn,r⟩:=r;exact⟨a,e,k.non hn,r⟩
 |ex x=>exact r
theorem Own.backp{s s':Shared}{h:Heap}{av:Addr→Prop}{v:Value}{d:PyData}(k:Kp s s')(r:Own prog w s' h av v d):Own prog w s h av v d :=
 by obtain⟨a,e,hn,r⟩:=r;exact⟨a,e,(K.of (l:=[]) k).non hn,r⟩
theorem Fly.back{l:List Env}{s s' s'':Shared}{av:Addr→Prop}{x:X}{v:Value}(k:K l s s')(f:Fly prog w mg l s' av x v s''):Fly prog w mg l s av x v s'':=by
 obtain⟨k',e,h1,h2,h3,oe,vs,T,oT,ts,g1,g2,g3,g4,g5,g6,g7,g8⟩:=f;exact⟨k.tr k',e,h1,k.non h2,h3,oe,vs,T,oT,ts,g1,g2,g3,k.non g4,g5,g6,g7,g8⟩
theorem EH.back{β:Type}{l:List Env}{s s':Shared}{av:Addr→Prop}{fin:R β}{E:Value→Shared→Prop}(h:EH prog w mg l s av fin E)(k:K l s s'):EH prog w mg l s' av fin E :=
 fun x v s'' e f=>h x v s'' e (f.back k)
theorem QH.step{β:Type}{l:List Env}{s s' s'':Shared}{av:Addr→Prop}{k:V→R β}{fin:R β}{Q:Value→Shared→Prop}(h:QH prog w l s av k fin Q)(kk:K l s s'){v:Value}{u:V}(r:Kp s' s''∧aY prog w s' s''.heap av v u)(e:k u=fin):Q v s'' :=
 h v s'' u (kk.trp r.1) (r.2.back kk) e
theorem QH.back{β:Type}{l:List Env}{s s':Shared}{av:Addr→Prop}{k:V→R β}{fin:R β}{Q:Value→Shared→Prop}(h:QH prog w l s av k fin Q)(kk:K l s s'):QH prog w l s' av k fin Q :=
 fun v s'' u k' r e=>h v s'' u (kk.tr k') (r.back kk) e
theorem Room.h0{n:Nat}{l:List Env}{A:Around}(h:Room n false l A):A.handled=none:=h.handled rfl
theorem Room.units80{n:Nat}{hd:Bool}{l:List Env}{A:Around}(h:Room n hd l A):A.units+70 < cLine:=by have:=h.units;exact ax0 this
theorem pV{l:List Env}{env:Env}{sc:Scope}{σ:aA}{av:Addr→Prop}{s:Shared}(I:Inv0 prog w mg mb base l env sc σ av s){x:Str}(h:isL sc x=true∨isG sc x=true):(x==("__debug__" : Str))=false:=by
 refine bcs (x==("__debug__" : Str)) (fun hx=>?_) fun hx=>?_
 ·try rewrite[hx]
  rfl
 ·try rewrite[hx]
  have e:x=Str.ofString "__debug__" := eq_of_beq hx;subst e;rcases h with h | h
  ·rw[isL,I.dbg] at h;exact bft h
  ·rw[isG,I.dbg] at h;exact bft h
theorem Gm{l:List Env}{env:Env}{sc:Scope}{σ:aA}{av:Addr→Prop}{s:Shared}(I:Inv0 prog w mg mb base l env sc σ av s){x:Str}(h:isL sc x=true):(x==("__classdict__" : Str))=false:=by
 refine bcs (x==("__classdict__" : Str)) (fun hx=>?_) fun hx=>?_
 ·try rewrite[hx]
  rfl
 ·try rewrite[hx]
  have e:x=Str.ofString "__classdict__" := eq_of_beq hx;subst e;rw[isL,I.cld] at h;exact bft h
theorem fP{l:List Env}{A:Around}{env:Env}{sc:Scope}{σ:aA}{av:Addr→Prop}{s:Shared}{x:Str}{u:Value}{Q:Value→Shared→Prop}{E:Value→Shared→Prop}{pos:Pos}(I:Inv0 prog w mg mb base l env sc σ av s)(hl:isL sc x=true)
  (v:aW env s.heap x u) (h:Q u s):wpAny (model prog w) A (eval (.Name x pos) env) Q E s:=by
 refine wpAny_Name ?_ (pV I (.inl hl));rcases v with ⟨k,m,hn,e⟩ | ⟨k | k,c,e,hc⟩
 ·exact wpAny_loadName_local I.kind k hn e h
 ·exact wpAny_loadName_cell I.kind k e hc h
 ·exact wpAny_loadName_free I.kind k e hc h (Gm I hl)
theorem Gnd.g{l:List Env}{av:Addr→Prop}{s:Shared}(G:Gnd prog w mg mb base l av s):s.heap.Ns mainGlobals mg:=G.glo.g.keeps G.stay
theorem mH{l:List Env}{A:Around}{env:Env}{sc:Scope}{σ:aA}{av:Addr→Prop}{s:Shared}{x:Str}{u:Value}{Q:Value→Shared→Prop}{E:Value→Shared→Prop}{pos:Pos}(I:Inv0 prog w mg mb base l env sc σ av s)(hg:isG sc x=true)
  (v:mg x=some u) (h:Q u s):wpAny (model prog w) A (eval (.Name x pos) env) Q E s :=
 Calls.Name_function_global I.kind (I.glob x hg) (Calls.loadGlobal_global (I.eg▸I.gnd.g) v h) (pV I (.inr hg))
theorem dY{l:List Env}{A:Around}{env:Env}{sc:Scope}{σ:aA}{av:Addr→Prop}{s:Shared}{x:Str}{u:Value}{Q:Value→Shared→Prop}{E:Value→Shared→Prop}{pos:Pos}(I:Inv0 prog w mg mb base l env sc σ av s)(hg:isG sc x=true)
  (v:hY x=some u) (h:Q u s):wpAny (model prog w) A (eval (.Name x pos) env) Q E s :=
 Calls.Name_function_global I.kind (I.glob x hg) (Calls.loadGlobal_builtin (I.eg▸I.gnd.g) (I.gnd.glo.blt x u v).1 (I.eb▸I.gnd.glo.b.keeps I.gnd.stay) (I.gnd.glo.blt x u v).2 h) (pV I (.inr hg))
theorem Gn{n:Nat}{hd:Bool}{l:List Env}{C:Ctx}{sc:Scope}{σ:aA}{x:Str}{pos:Pos}(hc:C.const=gA prog.main.body):aE prog w mg mb base n hd l sc σ (.Name x pos) (ofP (pF C sc σ x)):=by
 intro A env s av hA I β k fin Q E hf hq he;obtain⟨u,e1,e2⟩:=hf.p;unfold pF at e1
 split at e1
 ·rename_i hl;refine ocs (aA.get σ x) (fun e=>?_) fun o e=>?_
  ·try rewrite[e]
   rw[e] at e1;exact pno e1
  ·try rewrite[e]
   rw[e] at e1;cases o with
   |none=>exact pno e1
   |some v =>
    cases v with
    |fz d =>
     obtain rfl:=pi e1;obtain⟨u,h1,h2⟩:=I.get _ _ hl e;exact fP I hl h1 (hq _ _ (.fz d) (K.rf l s) h2 e2)
    |_=>exact pno e1
 ·split at e1
  ·rename_i hg;rw[hc] at e1;refine ocs (gA prog.main.body x) (fun e=>?_) fun d e=>?_
   ·try rewrite[e]
    rw[e] at e1;exact pno e1
   ·try rewrite[e]
    rw[e] at e1;obtain rfl:=pi e1;obtain⟨v,h1,h2⟩:=I.gnd.glo.const _ _ e;exact mH I hg h1 (hq _ _ (.fz d) (K.rf l s) (h2 _ _) e2)
  ·exact pno e1
theorem Go{n:Nat}{hd:Bool}{l:List Env}{sc:Scope}{σ:aA}{c:Const}{k:Nat}{pos:Pos}:aE prog w mg mb base n hd l sc σ (.Constant c k pos) (ofP (pG c)):=by
 intro A env s av hA I β k fin Q E hf hq he;have key:Yd (fun Q E=>wpAny (model prog w) A (eval (.Constant c ‹_› pos) env) Q E s) (fun v s' u=>Kp s s'∧aY prog w s s'.heap av v u) (pG c):=by
  cases c with
  |none=>exact fun Q E hq=>wpAny_Constant_none (hq _ _ ⟨Kp.rfl' s,.none⟩)
  |bool b=>exact fun Q E hq=>wpAny_Constant_bool (hq _ _ ⟨Kp.rfl' s,.bool b⟩)
  |int i=>exact fun Q E hq=>wpAny_Constant_int (hq _ _ ⟨Kp.tok' s _,.int i _⟩)
  |str x =>
   show Yd _ _ (mkS x);exact Yd.ite fun hx=>fun Q E hq=>wpAny_Constant_str (hq _ _ ⟨Kp.tok' s _,.str x _ hx⟩)
  |_=>exact trivial
 exact key.fin hf fun v s' u r e=>hq.step (K.rf l s) r e
end
end Mine
namespace Mine
open PySem
section
variable {prog:Program} {w:World}
theorem dZ(x:Str)(t:Tok):(strKind prog w).is x (.str x t)=true:=by
 show Value.isStrOf x (.str x t)=true;simp[Value.isStrOf]
theorem Rep.str_inv{h:Heap}{av:Addr→Prop}{v:Value}{x:Str}(r:Rep prog w h av v (.str x)):∃ t,v=.str x t∧x.length≤sizeLine:=by
 cases r with
 |str _ t hx=>exact⟨t,rfl,hx⟩
theorem Rep.int_inv{h:Heap}{av:Addr→Prop}{v:Value}{i:Int}(r:Rep prog w h av v (.int i)):∃ t,v=.int i t:=by
 cases r with
 |int _ t=>exact⟨t,rfl⟩
theorem Rep.bool_inv{h:Heap}{av:Addr→Prop}{v:Value}{b:Bool}(r:Rep prog w h av v (.bool b)):v=.bool b:=by cases r;rfl
inductive ListI(prog:Program)(w:World)(h:Heap)(av:Addr→Prop)(v:Value)(ds:List PyData):Prop where
 |mk (a:Addr) (vs:List Value) (e:v=.ref a) (n:¬ av a) (p:h.PlainList a (List.toArray vs)) (l:vs.length=ds.length) (z:vs.length≤sizeLine) (r:∀ (i:Nat) (v:Value) (d:PyData),vs[i]?=some v→ds[i]?=some d→Rep prog w h av v d):ListI prog w h av v ds
inductive TupI(prog:Program)(w:World)(h:Heap)(av:Addr→Prop)(v:Value)(ds:List PyData):Prop where
 |mk (a:Addr) (vs:List Value) (e:v=.ref a) (n:¬ av a) (p:PlT h a (List.toArray vs)) (l:vs.length=ds.length) (z:vs.length≤sizeLine) (r:∀ (i:Nat) (v:Value) (d:PyData),vs[i]?=some v→ds[i]?=some d→Rep prog w h av v d):TupI prog w h av v ds
inductive DictI(prog:Program)(w:World)(h:Heap)(av:Addr→Prop)(v:Value)(ds:List (PyData×PyData)):Prop where
 |mk (a:Addr) (kvs:List (Str×Value)) (e:v=.ref a) (n:¬ av a) (p:h.DictOf (strKind prog w) a kvs) (z:kvs.length≤sizeLine∧∀ kv∈kvs,kv.1.length≤sizeLine) (m:(a==sysModules)=false)
  (l:ds.map (·.1)=kvs.map (fun kv=>PyData.str kv.1)) (r:∀ (i:Nat) (kv:Str×Value) (d:PyData×PyData),kvs[i]?=some kv→ds[i]?=some d→Rep prog w h av kv.2 d.2):DictI prog w h av v ds
theorem Rep.list_inv{h:Heap}{av:Addr→Prop}{v:Value}{ds:List PyData}(r:Rep prog w h av v (.list ds)):ListI prog w h av v ds:=by
 cases r with
 |list h1 h2 h3 h4 h5=>exact⟨_,_,rfl,h1,h2,h3,h4,h5⟩
theorem Rep.tuple_inv{h:Heap}{av:Addr→Prop}{v:Value}{ds:List PyData}(r:Rep prog w h av v (.tuple ds)):TupI prog w h av v ds:=by
 cases r with
 |tuple h1 h2 h3 h4 h5=>exact⟨_,_,rfl,h1,h2,h3,h4,h5⟩
theorem Rep.dict_inv{h:Heap}{av:Addr→Prop}{v:Value}{ds:List (PyData×PyData)}(r:Rep prog w h av v (.dict ds)):DictI prog w h av v ds:=by
 cases r with
 |dict h1 h2 h3 h4 h5 h6=>exact⟨_,_,rfl,h1,h2,h3,h4,h5,h6⟩
theorem mI:∀ {ds:List (PyData×PyData)} {kvs:List (Str×Value)} (x:Str),ds.map (·.1)=kvs.map (fun kv=>PyData.str kv.1) →
  (valueAt kvs x=none∧bP ds x=none)∨∃ (i:Nat) (v:Value) (d:PyData),valueAt kvs x=some v∧bP ds x=some d∧kvs[i]?=some (x,v)∧ds[i]?=some (.str x,d)
 := by
 intro ds
 induction ds with
 |nil =>
  intro kvs x h;cases kvs with
  |nil=>exact .inl ⟨rfl,rfl⟩
  |cons=>exact nomatch h
 |cons p ds ih =>
  obtain⟨k,d⟩:=p;intro kvs x h;cases kvs with
  |nil=>exact nomatch h
  |cons q kvs =>
   obtain⟨y,v⟩:=q;obtain⟨rfl,h2⟩:=List.cons.inj h
   by_cases hx:x=y
   ·subst hx;exact .inr ⟨0,v,d,by unfold valueAt;rw[List.find?_cons,decide_eq_true rfl];rfl,if_pos rfl,rfl,rfl⟩
   ·have hv:valueAt ((y,v)::kvs) x=valueAt kvs x:=by unfold valueAt;rw[List.find?_cons,decide_eq_false (fun e=>hx e.symm:¬ (y,v).1=x)]
    rcases ih (kvs:=kvs) x h2 with ⟨a,b⟩ | ⟨i,v',d',a,b,c,e⟩
    ·exact .inl ⟨hv.trans a,(if_neg hx).trans b⟩
    ·exact .inr ⟨i+1,v',d',hv.trans a,(if_neg hx).trans b,c,e⟩
theorem fQ{h:Heap}{av:Addr→Prop}:∀ {vs:List Value} {ds:List PyData} {ss:List Str},vs.length=ds.length→(∀ (i:Nat) (v:Value) (d:PyData),vs[i]?=some v→ds[i]?=some d→Rep prog w h av v d) →
  strs? ds=some ss→∃ ts:List Tok,ts.length=ss.length∧vs=List.zipWith (fun x t=>Value.str x t) ss ts∧∀ x∈ss,x.length≤sizeLine
 := by
 intro vs
 induction vs with
 |nil =>
  intro ds ss hl hr hs;cases ds with
  |nil=>obtain rfl:=si hs;exact⟨[],rfl,rfl,fun x hx=>bT hx⟩
  |cons=>exact nomatch hl
 |cons v vs ih =>
  intro ds ss hl hr hs;cases ds with
  |nil=>exact nomatch hl
  |cons d ds =>
   have h0:=hr 0 v d rfl rfl;cases d with
   |str x =>
    obtain⟨t,rfl,hx⟩:=h0.str_inv;obtain⟨ss',hs',rfl⟩:=Option.map_eq_some_iff.mp (show(strs? ds).map (x::·)=some ss from hs);obtain⟨ts,h1,h2,h3⟩:=ih (ds:=ds) (Nat.succ.inj hl) (fun i v d e1 e2=>hr (i+1) v d e1 e2) hs';exact⟨t::ts,congrArg Nat.succ h1,congrArg (Value.str x t::·) h2,List.forall_mem_cons.mpr ⟨hx,h3⟩⟩
   |_=>exact ns hs
noncomputable def eU(x:Str):Value→Bool
 | .str y _=>y==x
 |_=>false
theorem wC(x:Str):∀ (ss:List Str) (ts:List Tok),ts.length=ss.length→(List.zipWith (fun x t=>Value.str x t) ss ts).any (eU x)=ss.contains x
 | [],[],_=>rfl
 | [],_::_,h=>by simp at h
 |_::_,[],h=>by simp at h
 |s::ss,t::ts,h=>by
  have ih:=wC x ss ts (by simpa using h);simp only[List.zipWith_cons_cons,List.any_cons,ih,List.contains_cons,eU];simp only[Bool.beq_comm]
theorem wE{A:Around}{s:Shared}(x:Str)(t:Tok):∀ (ss:List Str) (ts:List Tok) (y:Value),y∈List.zipWith (fun x t=>Value.str x t) ss ts→SeqAt.EqAt A s y (.str x t) (eU x y)
 | [],_,y,h=>by simp at h
 |_::_,[],y,h=>by simp at h
 |s'::ss,t'::ts,y,h=>by
  rcases List.mem_cons.mp h with h | h
  ·subst h;exact SeqAt.EqAt.str_str _ _ _ _
  ·exact wE x t ss ts y h
noncomputable def CS(prog:Program)(w:World)(A:Around)(s:Shared)(op:CmpOp)(va vb:Value)(p:P Bool):Prop :=
 Yd (fun Q E=>wpAny (model prog w) A (compareOp op va vb) Q E s) (fun v s' r=>Kp s s'∧v=.bool r) p
theorem CS.ok{A:Around}{s:Shared}{op:CmpOp}{va vb:Value}{b:Bool}(s':Shared)(k:Kp s s')(h:∀ (Q:Value→Shared→Prop) E,Q (.bool b) s'→wpAny (model prog w) A (compareOp op va vb) Q E s):CS prog w A s op va vb (.ok b) :=
 fun Q E hq=>h Q E (hq _ _ ⟨k,rfl⟩)
theorem mJ{A:Around}{s:Shared}{vs:List Value}{l:List PyData}{av:Addr→Prop}{x:Str}{t:Tok}{op:CmpOp}{vb:Value}{g:P Bool→P Bool}(h3:vs.length=l.length)(h5:∀ (i:Nat) (v:Value) (d:PyData),vs[i]?=some v→l[i]?=some d→Rep prog w s.heap av v d)
  (hg:g .no=.no) (h:∀ b,(∀ y∈vs.toArray,SeqAt.EqAt A.in1 s y (.str x t) (eU x y))→vs.toArray.any (eU x)=b→CS prog w A s op (.str x t) vb (g (.ok b))):CS prog w A s op (.str x t) vb (g (k9 x l)):=by
 unfold k9;cases hs:strs? l with
 |none =>
  have:g ((ofO (none:Option (List Str))).bind fun ss=>.ok (ss.contains x))=.no:=hg;simp only[this];exact trivial
 |some ss =>
  obtain⟨ts,e1,e2,e3⟩:=fQ h3 h5 hs;subst e2;exact h _ (fun y hy=>wE x t ss ts y (by simpa using hy)) (by simpa using wC x ss ts e1)
theorem wF{A:Around}{s:Shared}{av:Addr→Prop}{va vb:Value}{a b:PyData}(ra:Rep prog w s.heap av va a)(rb:Rep prog w s.heap av vb b) :
  CS prog w A s .In va vb (contains a b)∧CS prog w A s .NotIn va vb (cC (contains a b)):=by
 cases a with
 |str x =>
  obtain⟨t,rfl,hx⟩:=ra.str_inv;cases b with
  |str y =>
   obtain⟨u,rfl,hy⟩:=rb.str_inv;exact⟨CS.ok s (Kp.rfl' s) fun Q E h=>SB.contains h,CS.ok s (Kp.rfl' s) fun Q E h=>SB.notContains h⟩
  |dict l =>
   obtain⟨a,kvs,rfl,h1,h2,h3,h4,h5,h6⟩:=rb.dict_inv;have hsome:(valueAt kvs x).isSome=(bP l x).isSome:=by
    rcases mI x h5 with ⟨e1,e2⟩ | ⟨i,v,d,e1,e2,_⟩<;>rw[e1,e2]<;>rfl
   exact⟨CS.ok _ (Kp.tok' s _) fun Q E h=>wpAny_in_of (dZ x t) h4 h2.mapOf (by rw[hsome];exact h),CS.ok _ (Kp.tok' s _) fun Q E h=>wpAny_notIn_of (dZ x t) h4 h2.mapOf (by rw[hsome];exact h)⟩
  |list l =>
   obtain⟨a,vs,rfl,h1,h2,h3,h4,h5⟩:=rb.list_inv;exact⟨mJ (g:=id) h3 h5 rfl fun b he hb=>CS.ok s (Kp.rfl' s) fun Q E h=>SeqAt.in_listAt (eU x) h2.isList he (by rw[hb];exact h),
    mJ (g:=cC) h3 h5 rfl fun b he hb=>CS.ok s (Kp.rfl' s) fun Q E h=>SeqAt.notIn_listAt (eU x) h2.isList he (by rw[hb];exact h)⟩
  |tuple l =>
   obtain⟨a,vs,rfl,h1,h2,h3,h4,h5⟩:=rb.tuple_inv;exact⟨mJ (g:=id) h3 h5 rfl fun b he hb=>CS.ok s (Kp.rfl' s) fun Q E h=>SeqAt.in_tupleAt (eU x) h2.isTuple he (by rw[hb];exact h),
    mJ (g:=cC) h3 h5 rfl fun b he hb=>CS.ok s (Kp.rfl' s) fun Q E h=>SeqAt.notIn_tupleAt (eU x) h2.isTuple he (by rw[hb];exact h)⟩
  |_=>exact⟨trivial,trivial⟩
 |_=>exact⟨trivial,trivial⟩
theorem wG{A:Around}{s:Shared}{av:Addr→Prop}{va vb:Value}{a b:PyData}(ra:Rep prog w s.heap av va a)(rb:Rep prog w s.heap av vb b) :
  CS prog w A s .Is va vb (lA a b)∧CS prog w A s .IsNot va vb (cC (lA a b)):=by
 cases b with
 |none =>
  cases rb;have hv:(va==Value.none)=dT a:=by cases ra<;>rfl
  exact⟨CS.ok s (Kp.rfl' s) fun Q E h=>is_none (by rw[hv];exact h),CS.ok s (Kp.rfl' s) fun Q E h=>isNot_none (by rw[hv];exact h)⟩
 |_=>exact⟨trivial,trivial⟩
theorem Gp{a b:List Str}(h:a.length=b.length):(List.range a.length).all (fun j=>a[j]?==b[j]?)=(a==b):=by
 rw[Bool.eq_iff_iff,List.all_eq_true,beq_iff_eq];constructor
 ·intro hh;refine List.ext_getElem? fun i=>?_
  by_cases hi:i < a.length
  ·exact eq_of_beq (hh i (List.mem_range.mpr hi))
  ·rw[List.getElem?_eq_none (Nat.not_lt.mp hi),List.getElem?_eq_none (h▸Nat.not_lt.mp hi)]
 ·intro hh i _;rw[hh];exact beq_self_eq_true _
theorem Gq{A:Around}{s:Shared}{h:Heap}{av:Addr→Prop}{vs vs':List Value}{x y:List PyData}{p:Bool}(hl:x.length=y.length)(h3:vs.length=x.length)(h5:∀ (i:Nat) (v:Value) (d:PyData),vs[i]?=some v→x[i]?=some d→Rep prog w h av v d)(k3:vs'.length=y.length)
  (k5:∀ (i:Nat) (v:Value) (d:PyData),vs'[i]?=some v→y[i]?=some d→Rep prog w h av v d) (he:gV x y=.ok p):∃ e:Nat→Bool,(List.range vs.length).all e=p∧∀ j (h1:j < vs.toArray.size) (h2:j < vs'.toArray.size),SeqAt.EqAt A s vs.toArray[j] vs'.toArray[j] (e j):=by
 unfold gV at he;refine ocs (strs? x) (fun hx=>?_) fun a hx=>?_
 ·try rewrite[hx]
  simp only[hx] at he;exact pno he
 ·try rewrite[hx]
  refine ocs (strs? y) (fun hy=>?_) fun b hy=>?_
  ·try rewrite[hy]
   simp only[hx,hy] at he;exact pno he
  ·try rewrite[hy]
   simp only[hx,hy] at he;obtain rfl:=pi he;obtain⟨ta,q1,rfl,_⟩:=fQ h3 h5 hx;obtain⟨tb,q2,rfl,_⟩:=fQ k3 k5 hy;have la:(List.zipWith (fun x t=>Value.str x t) a ta).length=a.length:=by simp[q1]
   have lb:(List.zipWith (fun x t=>Value.str x t) b tb).length=b.length:=by simp[q2]
   refine⟨fun j=>a[j]?==b[j]?,?_,fun j h1 h2=>?_⟩
   ·simp only[la];exact Gp (by simp only[← la,← lb,h3,k3,hl])
   ·have ja:j < a.length:=by simpa[q1] using h1
    have jb:j < b.length:=by simpa[q2] using h2
    have e1:=List.getElem?_eq_getElem ja;have e2:=List.getElem?_eq_getElem jb;simp only[e1,e2,List.getElem_toArray,List.getElem_zipWith];exact SeqAt.EqAt.str_str _ _ _ _
theorem wH{A:Around}{s:Shared}{av:Addr→Prop}{va vb:Value}{a b:PyData}(hu:A.units+70 < cLine)(ra:Rep prog w s.heap av va a)(rb:Rep prog w s.heap av vb b) :
  CS prog w A s .Eq va vb (eqO a b)∧CS prog w A s .NotEq va vb (cC (eqO a b)):=by
 have hu0:A.units < cLine:=by exact ax2 hu
 cases a with
 |none =>
  cases ra;cases b with
  |list y =>
   obtain⟨a',vs',rfl,k1,k2,k3,k4,k5⟩:=rb.list_inv;exact⟨CS.ok s (Kp.rfl' s) fun Q E h=>SeqAt.RcAt.none_list k2.isList hu0 prog w E Q h,CS.ok s (Kp.rfl' s) fun Q E h=>SeqAt.RcNeAt.none_list k2.isList hu0 prog w E Q h⟩
  |_=>exact⟨trivial,trivial⟩
 |int x =>
  obtain⟨t,rfl⟩:=ra.int_inv;cases b with
  |int y =>
   obtain⟨u,rfl⟩:=rb.int_inv;exact⟨CS.ok s (Kp.rfl' s) fun Q E h=>SeqAt.RcAt.int_int x t y u prog w E Q h,CS.ok s (Kp.rfl' s) fun Q E h=>SeqAt.RcNeAt.int_int x t y u prog w E Q h⟩
  |_=>exact⟨trivial,trivial⟩
 |str x =>
  obtain⟨t,rfl,_⟩:=ra.str_inv;cases b with
  |str y =>
   obtain⟨u,rfl,_⟩:=rb.str_inv;exact⟨CS.ok s (Kp.rfl' s) fun Q E h=>SeqAt.RcAt.str_str x t y u prog w E Q h,CS.ok s (Kp.rfl' s) fun Q E h=>SeqAt.RcNeAt.str_str x t y u prog w E Q h⟩
  |_=>exact⟨trivial,trivial⟩
 |bool x =>
  obtain rfl:=ra.bool_inv;cases b with
  |bool y =>
   obtain rfl:=rb.bool_inv;exact⟨CS.ok s (Kp.rfl' s) fun Q E h=>SeqAt.RcAt.bool_bool x y prog w E Q h,CS.ok s (Kp.rfl' s) fun Q E h=>SeqAt.RcNeAt.bool_bool x y prog w E Q h⟩
  |_=>exact⟨trivial,trivial⟩
 |list x =>
  obtain⟨a,vs,rfl,h1,h2,h3,h4,h5⟩:=ra.list_inv;cases b with
  |list y =>
   obtain⟨a',vs',rfl,k1,k2,k3,k4,k5⟩:=rb.list_inv
   by_cases hl:x.length=y.length
   ·have e0:eqO (.list x) (.list y)=gV x y:=if_pos hl;rw[e0];refine pcs (gV x y) (fun he=>?_) fun p he=>?_
    ·try rewrite[he]
     exact⟨trivial,trivial⟩
    ·try rewrite[he]
     obtain⟨e,q1,q2⟩:=Gq (A:=A.in1) (s:=s) hl h3 h5 k3 k5 he;have hsz:vs.toArray.size=vs'.toArray.size:=by simp[h3,k3,hl]
     subst q1;exact⟨CS.ok s (Kp.rfl' s) fun Q E h=>SeqAt.RcAt.lists h2.isList k2.isList hsz hu0 q2 prog w E Q (by simpa using h),
      CS.ok s (Kp.rfl' s) fun Q E h=>SeqAt.RcNeAt.lists h2.isList k2.isList hsz hu0 q2 prog w E Q (by simpa using h)⟩
   ·have e0:eqO (.list x) (.list y)=.ok false:=if_neg hl;rw[e0];have hsz:(vs.toArray.size != vs'.toArray.size)=true:=by simp[h3,k3,hl]
    exact⟨CS.ok s (Kp.rfl' s) fun Q E h=>SeqAt.RcAt.lists_lengths h2.isList k2.isList hsz hu0 prog w E Q h,
     CS.ok s (Kp.rfl' s) fun Q E h=>SeqAt.RcNeAt.lists_lengths h2.isList k2.isList hsz hu0 prog w E Q h⟩
  |_=>exact⟨trivial,trivial⟩
 |_=>exact⟨trivial,trivial⟩
theorem mK{A:Around}{s:Shared}{av:Addr→Prop}{va vb:Value}{a b:PyData}{op:CmpOp}{f:Int→Int→Bool}(ra:Rep prog w s.heap av va a)(rb:Rep prog w s.heap av vb b)
  (h:∀ x t y u (Q:Value→Shared→Prop) E,Q (.bool (f x y)) s→wpAny (model prog w) A (compareOp op (.int x t) (.int y u)) Q E s):CS prog w A s op va vb (jE f a b):=by
 cases a with
 |int x =>
  obtain⟨t,rfl⟩:=ra.int_inv;cases b with
  |int y =>
   obtain⟨u,rfl⟩:=rb.int_inv;exact CS.ok s (Kp.rfl' s) fun Q E hq=>h x t y u Q E hq
  |_=>exact trivial
 |_=>exact trivial
theorem Gr{A:Around}{s:Shared}{av:Addr→Prop}{op:CmpOp}{va vb:Value}{a b:PyData}(hu:A.units+70 < cLine)(ra:Rep prog w s.heap av va a)(rb:Rep prog w s.heap av vb b):CS prog w A s op va vb (cmp op a b):=by
 cases op with
 |Eq=>exact(wH hu ra rb).1
 |NotEq=>exact(wH hu ra rb).2
 |In=>exact(wF ra rb).1
 |NotIn=>exact(wF ra rb).2
 |Is=>exact(wG ra rb).1
 |IsNot=>exact(wG ra rb).2
 |Lt=>exact mK ra rb fun x t y u Q E h=>PyProof.Rows.lt_int h
 |LtE=>exact mK ra rb fun x t y u Q E h=>P.le_int h
 |Gt=>exact mK ra rb fun x t y u Q E h=>PyProof.Rows.gt_int h
 |GtE=>exact mK ra rb fun x t y u Q E h=>P.ge_int h
end
end Mine
namespace Mine
open PySem
section
variable {prog:Program} {w:World}
theorem bL(h:Heap):h.get? h.objs.size=none:=by
 refine ocs (h.get? h.objs.size) (fun e=>?_) fun o e=>?_
 ·try rewrite[e]
  rfl
 ·try rewrite[e]
  exact absurd (Heap.lt_size e) (Nat.lt_irrefl _)
theorem Rep.apart{h:Heap}{av:Addr→Prop}{v:Value}{d:PyData}{a:Addr}(hn:h.get? a=Option.none)(r:Rep prog w h av v d):Rep prog w h (fun b=>av b∨b=a) v d :=
 r.mono (fun _ _ _ e=>e) fun b o e x=>x.elim id fun x=>by subst x;rw[hn] at e;exact ns e
theorem cH(h:Heap)(o:Obj)(ho:o.isFreed=false):(h.push o).get? h.objs.size=some o:=Heap.get?_push_size h ho
theorem wI{h:Heap}{av:Addr→Prop}{xs ys:List Value}{as bs:List PyData}(hx:xs.length=as.length)(_hy:ys.length=bs.length)
  (rx:∀ (i:Nat) (v:Value) (d:PyData),xs[i]?=some v→as[i]?=some d→Rep prog w h av v d) (ry:∀ (i:Nat) (v:Value) (d:PyData),ys[i]?=some v→bs[i]?=some d→Rep prog w h av v d) :
  ∀ (i:Nat) (v:Value) (d:PyData),(xs++ys)[i]?=some v→(as++bs)[i]?=some d→Rep prog w h av v d:=by
 intro i v d e1 e2
 by_cases hi:i < xs.length
 ·rw[List.getElem?_append_left hi] at e1;rw[List.getElem?_append_left (hx▸hi)] at e2;exact rx i v d e1 e2
 ·rw[List.getElem?_append_right (by exact ax4 hi)] at e1;rw[List.getElem?_append_right (by exact ax5 hx hi),← hx] at e2;exact ry _ v d e1 e2
theorem pW{s s₁:Shared}{av:Addr→Prop}{vs:List Value}{ds:List PyData}(k:Kp s s₁)(hl:vs.length=ds.length)(hz:vs.length≤sizeLine)
  (hr:∀ (i:Nat) (v:Value) (d:PyData),vs[i]?=some v→ds[i]?=some d→Rep prog w s₁.heap av v d) :
  Kp s { s₁ with heap:=s₁.heap.push { cls:=.type "list", data:=.seq vs.toArray } } ∧
   aY prog w s (s₁.heap.push { cls:=.type "list", data:=.seq vs.toArray }) av (.ref s₁.heap.objs.size) (.own (.list ds)):=by
 refine⟨k.tr (Kp.push' _ _),Own.backp k ⟨_,rfl,bL _,vs,⟨0,cH _ _ rfl⟩,hl,hz,fun i v d e1 e2=>?_⟩⟩;exact(((hr i v d e1 e2).apart (bL _)).keeps fun b o e=>Heap.get?_push_of_some _ e)
theorem pX{s s₁:Shared}{av:Addr→Prop}{vs:List Value}{ds:List PyData}(k:Kp s s₁)(ha:∀ b,av b→∃ o,s₁.heap.get? b=some o)(hl:vs.length=ds.length)(hz:vs.length≤sizeLine)
  (hr:∀ (i:Nat) (v:Value) (d:PyData),vs[i]?=some v→ds[i]?=some d→Rep prog w s₁.heap av v d) :
  Kp s { s₁ with heap:=s₁.heap.push { cls:=.type "tuple", data:=.seq vs.toArray } } ∧
   aY prog w s (s₁.heap.push { cls:=.type "tuple", data:=.seq vs.toArray }) av (.ref s₁.heap.objs.size) (.fz (.tuple ds)):=by
 refine⟨k.tr (Kp.push' _ _),Rep.tuple (fun x=>?_) ⟨0,cH _ _ rfl⟩ hl hz fun i v d e1 e2=>(hr i v d e1 e2).keeps fun b o e=>Heap.get?_push_of_some _ e⟩;obtain⟨o,e⟩:=ha _ x;rw[bL] at e;exact ns e
theorem Gs{x y:Int}(hy:y.natAbs < 2 ^ 63):Builtin.divisionGoesByPylong x y=false:=by
 unfold Builtin.divisionGoesByPylong;have:(if (y==0)=true then 0 else y.natAbs.log2 / 30+1)≤300:=by
  split
  ·exact ax6
  ·rename_i h0;have hn:y.natAbs≠0:=by simpa using h0
   have:y.natAbs.log2 < 63:=(Nat.log2_lt hn).mpr hy;exact ax7 this
 simp only[Bool.and_eq_false_iff,decide_eq_false_iff_not];left;exact ax8 this
theorem wJ{x:Int}(h:x.natAbs < 2 ^ 63):Builtin.Int.intBits x≤64:=intBits_le_64 (by omega) (by omega)
theorem Gu{x:Str}{n:Int}(hn:n≤1024)(hx:x.length≤1024):(jC x n).length≤sizeLine:=by
 unfold jC
 split
 ·exact Nat.zero_le _
 ·split
  ·rw[sizeLine_eq];exact ax9 hx
  ·have hf:∀ (k:Nat) (acc:Array Nat),((List.replicate k x.cps).foldl (·++·) acc).size=acc.size+k*x.cps.size:=by
    intro k
    induction k with
    |zero=>intro acc;simp
    |succ k ih=>intro acc;rw[List.replicate_succ,List.foldl_cons,ih,Array.size_append,Nat.succ_mul];exact Ck
   show((List.replicate n.toNat x.cps).foldl (·++·) #[]).size≤sizeLine;rw[hf];have h1:n.toNat≤1024:=by exact Cl hn
   have h2:x.cps.size≤1024:=hx;have h3:n.toNat*x.cps.size≤1024*1024:=Nat.mul_le_mul h1 h2;rw[sizeLine_eq];simp;exact Cm h3
theorem wK{op:Operator}(h:gU op=true):op=.Add:=by
 cases op<;>first | rfl | cases h
theorem Gv{op:Operator}(h:u0 op=true):op=.Mult:=by
 cases op<;>first | rfl | cases h
noncomputable def OS(prog:Program)(w:World)(A:Around)(s:Shared)(av:Addr→Prop)(op:Operator)(va vb:Value)(p:P V):Prop :=
 Yd (fun Q E=>wpAny (model prog w) A (binaryOp op va vb) Q E s) (fun v s' u=>Kp s s'∧aY prog w s s'.heap av v u) p
theorem Gw{A:Around}{s:Shared}{av:Addr→Prop}{op:Operator}(x y:Int)(t u:Tok):OS prog w A s av op (.int x t) (.int y u) (uZ op x y):=by
 cases op with
 |Add=>exact fun Q E hq=>PyProof.Rows.add_int (hq _ _ ⟨Kp.tok' s _,.int _ _⟩)
 |Sub=>exact fun Q E hq=>PyProof.Rows.sub_int (hq _ _ ⟨Kp.tok' s _,.int _ _⟩)
 |Mult=>exact Yd.ite fun h Q E hq=>P.mul_int (hq _ _ ⟨Kp.tok' s _,.int _ _⟩) (h.elim (fun h=>.of_left (wJ h)) fun h=>.of_right (wJ h))
 |FloorDiv=>exact Yd.ite fun h Q E hq=>PyProof.Rows.floordiv_int h.1 (hq _ _ ⟨Kp.tok' s _,.int _ _⟩) (.inl (Gs h.2))
 |Mod=>exact Yd.ite fun h Q E hq=>PyProof.Rows.mod_int' h (hq _ _ ⟨Kp.tok' s _,.int _ _⟩)
 |Pow=>exact Yd.ite fun h Q E hq=>PyProof.Rows.pow_int_small h.1 (by exact Cn h) (by omega) (hq _ _ ⟨Kp.tok' s _,.int _ _⟩)
 |_=>exact trivial
theorem Gx{x:Str}{n:Int}(h1:1≤n)(h2:n≤1024)(hx:x.length≤1024):(x.length:Int)≤(2 ^ 63 - 1) / n :=
 Int.le_ediv_of_mul_le (by exact Co h1) (Int.le_trans (Int.mul_le_mul (Int.ofNat_le.mpr hx) h2 (by exact Cp h1) (by decide)) (by decide))
theorem Gy{A:Around}{s:Shared}{av:Addr→Prop}(x:Str)(n:Int)(t u:Tok)(h:-100≤n∧n≤1024∧x.length≤1024):OS prog w A s av .Mult (.str x t) (.int n u) (.ok (.fz (.str (jC x n)))):=by
 intro Q E hq;have hlen:=Gu h.2.1 h.2.2;refine P.mul_str (by simp only[Bool.or_eq_false_iff,decide_eq_false_iff_not];lia) (fun h1 _=>?_) (fun h1 _=>?_) ?_
 ·have:=Gx (by exact Cq h1) h.2.1 h.2.2;exact Cr this
 ·exact decide_eq_false (Nat.not_lt.mpr (Nat.le_trans (Nat.mul_le_mul h.2.2 (by exact Cs h:n.toNat≤1024)) (by decide)))
 ·unfold jC at hlen hq
  split
  ·rename_i hn;rw[if_pos hn] at hq hlen;exact⟨hlen,hq _ _ ⟨Kp.tok' s _,.str _ _ hlen⟩⟩
  ·rename_i hn;rw[if_neg hn] at hq hlen
   split
   ·rename_i h1;rw[if_pos h1] at hq hlen;exact hq _ _ ⟨Kp.rfl' s,.str _ _ hlen⟩
   ·rename_i h1;rw[if_neg h1] at hq hlen;exact⟨hlen,hq _ _ ⟨Kp.tok' s _,.str _ _ hlen⟩⟩
theorem Gz{A:Around}{s:Shared}{av:Addr→Prop}{va vb:Value}{l m:List PyData}(ra:Rep prog w s.heap av va (.list l))(rb:Rep prog w s.heap av vb (.list m))(h:l.length+m.length≤aI):OS prog w A s av .Add va vb (.ok (.own (.list (l++m)))):=by
 obtain⟨a,vs,rfl,h1,⟨n,e⟩,h3,h4,h5⟩:=ra.list_inv;obtain⟨a',vs',rfl,k1,⟨n',e'⟩,k3,k4,k5⟩:=rb.list_inv;intro Q E hq;have hz:(vs++vs').length≤sizeLine:=by rw[List.length_append,h3,k3];exact h
 have:=pW (prog:=prog) (w:=w) (vs:=vs++vs') (ds:=l++m) (Kp.rfl' s) (by simp[h3,k3]) hz (wI h3 k3 h5 k5);refine P.add_list e e' ?_ (by simpa using hz);rw[List.append_toArray];exact hq _ _ this
theorem G0{A:Around}{s:Shared}{av:Addr→Prop}{op:Operator}{va vb:Value}{a b:PyData}(ra:Rep prog w s.heap av va a)(rb:Rep prog w s.heap av vb b):OS prog w A s av op va vb (aC op a b):=by
 cases a with
 |int x =>
  obtain⟨t,rfl⟩:=ra.int_inv;cases b with
  |int y =>
   obtain⟨u,rfl⟩:=rb.int_inv;exact Gw x y t u
  |_=>exact trivial
 |str x =>
  obtain⟨t,rfl,hx⟩:=ra.str_inv;cases b with
  |str y =>
   obtain⟨u,rfl,hy⟩:=rb.str_inv;exact Yd.ite fun h Q E hq=>by
    cases wK h.1;exact SB.add (fun t' k=>hq _ _ ⟨Kp.tok' s _,.str _ _ (by rw[strLen_append];exact h.2)⟩) h.2
  |int y =>
   obtain⟨u,rfl⟩:=rb.int_inv;exact Yd.ite fun h=>by
    cases Gv h.1;exact Gy x y t u h.2
  |_=>exact trivial
 |list l =>
  cases b with
  |list m=>exact Yd.ite fun h=>by cases wK h.1;exact Gz ra rb h.2
  |_=>exact trivial
 |_=>exact trivial
end
end Mine
namespace Mine
open PySem
section
variable {prog:Program} {w:World} {mg mb:Str→Option Value} {base:Heap}
theorem iA{u:V}{b:Bool}(h:cG u=.ok b):u=.fz (.bool b):=by
 cases u with
 |fz d=>cases d<;>first | (cases h;rfl) | cases h
 |_=>exact pno h
theorem aY.clear{l:List Env}{s:Shared}{h:Heap}{av:Addr→Prop}{v:Value}{u:V}(hlt:∀ b,av b→∃ o,s.heap.get? b=some o)(r:aY prog w s h av v u):bV prog w mg l h av v u.clear:=by
 cases u with
 |fz d=>exact r
 |own d=>exact Own.rep hlt r
 |ex x=>exact r.elim
variable {n:Nat} {hd:Bool} {l:List Env} {sc:Scope} {σ:aA}
theorem G1{a b:Expr}{op:Operator}{pos:Pos}{pl pr:R V}(hl:aE prog w mg mb base n hd l sc σ a pl)(hr:aE prog w mg mb base n hd l sc σ b pr) :
  aE prog w mg mb base n hd l sc σ (.BinOp a op b pos) (rb pl fun a=>rb pr fun b=>ofP (aC op (dOf a) (dOf b))):=by
 intro A env s av hA I β k fin Q E hf hq he;refine wpAny_BinOp (hl A env s av hA I hf.b (fun va s₁ a k1 ra h1=>?_) he);have I1:=I.k k1;refine hr A env s₁ av hA I1 (Fin.b ⟨h1,hf.2⟩) (fun vb s₂ b k2 rb h2=>?_) (he.back k1);exact(G0 ((ra.rep I.gnd.avlt).k I.gnd.fav k2) (rb.rep I1.gnd.avlt)).fin ⟨h2,hf.2⟩ fun v s' u r e=>hq.step (k1.tr k2) r e
theorem wL{x:Expr}{op:UnaryOp}{pos:Pos}{p:R V}(hx:aE prog w mg mb base n hd l sc σ x p):aE prog w mg mb base n hd l sc σ (.UnaryOp op x pos) (rb p fun v=>ofP (eH op v)):=by
 intro A env s av hA I β k fin Q E hf hq he;refine wpAny_UnaryOp (hx A env s av hA I hf.b (fun va s₁ a k1 ra h1=>?_) he);obtain⟨u,e1,e2⟩:=Fin.p ⟨h1,hf.2⟩;cases op with
 |Not =>
  refine pcs (cG a) (fun ht=>?_) fun b ht=>?_
  ·try rewrite[ht]
   rw[eH,ht] at e1;exact pno e1
  ·try rewrite[ht]
   rw[eH,ht] at e1;obtain rfl:=pi e1;cases iA ht;cases (show Rep prog w s₁.heap av va (.bool b) from ra).bool_inv;exact not_value (wpAny_truthy_bool (hq _ _ (.fz (.bool _)) k1 (.bool _) e2))
 |USub =>
  have r:=ra.rep I.gnd.avlt;have e1:vH (dOf a)=.ok u:=e1;generalize dOf a=d at r e1;cases d with
  |int i =>
   obtain rfl:=pi e1;obtain⟨t,rfl⟩:=r.int_inv;exact P.neg_int (hq _ _ (.fz (.int _)) (k1.trp (Kp.tok' _ _)) (.int _ _) e2)
  |_=>exact pno e1
 |_=>exact pno e1
noncomputable def bO(prog:Program)(w:World)(mg mb:Str→Option Value)(base:Heap)(n:Nat)(hd:Bool)(l:List Env)(sc:Scope)(σ:aA)(e:Expr)(r:R V):Prop :=
 ∀ (A:Around) (env:Env) (s:Shared) (av:Addr→Prop),Room n hd l A→Inv0 prog w mg mb base l env sc σ av s →
  ∀ {β:Type} {k:Bool→R β} {fin:R β} {Q:Bool→Shared→Prop} {E:Value→Shared→Prop},Fin (tst r) k fin→(∀ b s',K l s s'→k b=fin→Q b s')→EH prog w mg l s av fin E→wpAny (model prog w) A (isTrue e env (eval e env)) Q E s
theorem G2{t b o:Expr}{pos:Pos}{pt pb po:R V}(ht:bO prog w mg mb base n hd l sc σ t pt)(hb:aE prog w mg mb base n hd l sc σ b pb)(ho:aE prog w mg mb base n hd l sc σ o po) :
  aE prog w mg mb base n hd l sc σ (.IfExp t b o pos) (rb (tst pt) fun c=>if c then pb else po):=by
 intro A env s av hA I β k fin Q E hf hq he;refine wpAny_IfExp (ht A env s av hA I hf.b (fun c s₁ k1 h1=>?_) he);cases c with
 |true=>exact hb A env s₁ av hA (I.k k1) ⟨h1,hf.2⟩ (hq.back k1) (he.back k1)
 |false=>exact ho A env s₁ av hA (I.k k1) ⟨h1,hf.2⟩ (hq.back k1) (he.back k1)
theorem wM{e:Expr}{r:R V}(h:aE prog w mg mb base n hd l sc σ e r)(he:∀ env whole,isTrue e env whole=(do let v ← whole;standAt e.pos;holding [v] (truthy v))):bO prog w mg mb base n hd l sc σ e r:=by
 intro A env s av hA I β k fin Q E hf hq hE;refine wpAny_isTrue_value (h A env s av hA I hf.b (fun v s₁ a k1 ra h1=>?_) hE) (he env _);obtain⟨b,e1,e2⟩:=Fin.p ⟨h1,hf.2⟩;cases iA e1;cases (show Rep prog w s₁.heap av v (.bool b) from ra).bool_inv;exact wpAny_truthy_bool (hq _ _ k1 e2)
theorem G3{x:Expr}{pos:Pos}{p:R V}(hx:bO prog w mg mb base n hd l sc σ x p):bO prog w mg mb base n hd l sc σ (.UnaryOp .Not x pos) (rb p fun v=>ofP (eH .Not v)):=by
 intro A env s av hA I β k fin Q E hf hq hE;refine wpAny_isTrue_Not (hx A env s av hA I (k:=fun b=>k !b) ⟨?_,hf.2⟩ (fun b s₁ k1 h1=>hq _ _ k1 h1) hE);rw[← hf.1];cases p with
 |ok v =>
  show rb (ofP (cG v)) _=rb (tst (ofP (eH .Not v))) k;unfold eH;cases cG v<;>rfl
 |_=>rfl
theorem G4{t b o:Expr}{pos:Pos}{pt pb po:R V}(ht:bO prog w mg mb base n hd l sc σ t pt)(hb:bO prog w mg mb base n hd l sc σ b pb)(ho:bO prog w mg mb base n hd l sc σ o po) :
  bO prog w mg mb base n hd l sc σ (.IfExp t b o pos) (rb (tst pt) fun c=>if c then pb else po):=by
 intro A env s av hA I β k fin Q E hf hq hE;refine wpAny_bind (ht A env s av hA I hf.b.b (fun c s₁ k1 h1=>?_) hE);cases c with
 |true=>exact hb A env s₁ av hA (I.k k1) (Fin.unb ⟨h1,hf.2⟩) (fun b s' k2 e=>hq b s' (k1.tr k2) e) (hE.back k1)
 |false=>exact ho A env s₁ av hA (I.k k1) (Fin.unb ⟨h1,hf.2⟩) (fun b s' k2 e=>hq b s' (k1.tr k2) e) (hE.back k1)
theorem G5{rec:Expr→R V}{A:Around}{env:Env}{av:Addr→Prop}{pos:Pos}(hA:Room n hd l A):∀ {vs:List Expr} {s:Shared},(∀ e∈vs,aE prog w mg mb base n hd l sc σ e (rec e))→Inv0 prog w mg mb base l env sc σ av s →
  ∀ {β:Type} {k:V→R β} {fin:R β} {Q:Value→Shared→Prop} {E:Value→Shared→Prop},Fin (jH rec vs) k fin→QH prog w l s av k fin Q→EH prog w mg l s av fin E→wpAny (model prog w) A (boolOp pos .And (evalEach vs env)) Q E s:=by
 intro v0
 induction v0 with
 |nil =>
  intro _ _ _ _ _ _ _ _ hf _ _;exact hf.no.elim
 |cons e r0 ih =>
  cases r0 with
  |nil =>
   intro s h I _ _ _ _ _ hf hq he;exact h e List.mem_cons_self A env s av hA I hf hq he
  |cons e' r =>
   intro s h I _ _ _ _ _ hf hq he;refine wpAny_bind (h e List.mem_cons_self A env s av hA I (Fin.b hf) (fun v s₁ a k1 ra h1=>wpAny_bind (wpAny_standAt (wpAny_bind (wpAny_holding ?_)))) he);obtain⟨b,e1,e2⟩:=Fin.p (Fin.b ⟨h1,hf.2⟩);cases iA e1;cases (show Rep prog w s₁.heap av v (.bool b) from ra).bool_inv;cases b with
   |true=>exact wpAny_truthy_bool (ih (fun x hx=>h x (List.mem_cons_of_mem _ hx)) (I.k k1) ⟨e2,hf.2⟩ (hq.back k1) (he.back k1))
   |false=>exact wpAny_truthy_bool (wpAny_pure (hq _ _ (.fz (.bool _)) k1 (.bool _) e2))
theorem G6{rec:Expr→R V}{A:Around}{env:Env}{av:Addr→Prop}{pos:Pos}(hA:Room n hd l A):∀ {vs:List Expr} {s:Shared},(∀ e∈vs,aE prog w mg mb base n hd l sc σ e (rec e))→Inv0 prog w mg mb base l env sc σ av s →
  ∀ {β:Type} {k:V→R β} {fin:R β} {Q:Value→Shared→Prop} {E:Value→Shared→Prop},Fin (jI rec vs) k fin→QH prog w l s av k fin Q→EH prog w mg l s av fin E→wpAny (model prog w) A (boolOp pos .Or (evalEach vs env)) Q E s:=by
 intro v0
 induction v0 with
 |nil =>
  intro _ _ _ _ _ _ _ _ hf _ _;exact hf.no.elim
 |cons e r0 ih =>
  cases r0 with
  |nil =>
   intro s h I _ _ _ _ _ hf hq he;exact h e List.mem_cons_self A env s av hA I hf hq he
  |cons e' r =>
   intro s h I _ _ _ _ _ hf hq he;refine wpAny_bind (h e List.mem_cons_self A env s av hA I (Fin.b hf) (fun v s₁ a k1 ra h1=>wpAny_bind (wpAny_standAt (wpAny_bind (wpAny_holding ?_)))) he);obtain⟨b,e1,e2⟩:=Fin.p (Fin.b ⟨h1,hf.2⟩);cases iA e1;cases (show Rep prog w s₁.heap av v (.bool b) from ra).bool_inv;cases b with
   |false=>exact wpAny_truthy_bool (ih (fun x hx=>h x (List.mem_cons_of_mem _ hx)) (I.k k1) ⟨e2,hf.2⟩ (hq.back k1) (he.back k1))
   |true=>exact wpAny_truthy_bool (wpAny_pure (hq _ _ (.fz (.bool _)) k1 (.bool _) e2))
theorem G7{rec:Expr→R V}{A:Around}{env:Env}{av:Addr→Prop}(hA:Room n hd l A):∀ {vs:List Expr} {s:Shared},(∀ e∈vs,bO prog w mg mb base n hd l sc σ e (rec e))→Inv0 prog w mg mb base l env sc σ av s →
  ∀ {β:Type} {k:Bool→R β} {fin:R β} {Q:Bool→Shared→Prop} {E:Value→Shared→Prop},Fin (tst (jH rec vs)) k fin→(∀ b s',K l s s'→k b=fin→Q b s')→EH prog w mg l s av fin E→wpAny (model prog w) A (allTrue .And vs env) Q E s:=by
 intro v0
 induction v0 with
 |nil =>
  intro _ _ _ _ _ _ _ _ hf _ _;exact hf.no.elim
 |cons e r0 ih =>
  cases r0 with
  |nil =>
   intro s h I _ _ _ _ _ hf hq he;exact wpAny_allTrue_And_cons (h e List.mem_cons_self A env s av hA I hf (fun b s₁ k1 h1=>by
    cases b with
    |true=>exact wpAny_allTrue_And_nil (hq _ _ k1 h1)
    |false=>exact hq _ _ k1 h1) he)
  |cons e' r =>
   intro s h I _ k _ _ _ hf hq he;exact wpAny_allTrue_And_cons (h e List.mem_cons_self A env s av hA I (k:=fun b=>if b then rb (tst (jH rec (e'::r))) k else k false) ⟨by
    rw[← hf.1];show rb (tst (rec e)) _=rb (rb (rb (rec e) _) _) k;cases rec e with
    |ok v =>
     show rb (ofP (cG v)) _=rb (rb (rb (ofP (cG v)) _) _) k;cases ht:cG v with
     |ok b=>cases iA ht;cases b<;>rfl
     |_=>rfl
    |_=>rfl,hf.2⟩ (fun b s₁ k1 h1=>by
    cases b with
    |true=>exact ih (fun x hx=>h x (List.mem_cons_of_mem _ hx)) (I.k k1) ⟨h1,hf.2⟩ (fun b s' k2 e=>hq b s' (k1.tr k2) e) (he.back k1)
    |false=>exact hq _ _ k1 h1) he)
theorem G8{rec:Expr→R V}{A:Around}{env:Env}{av:Addr→Prop}(hA:Room n hd l A):∀ {vs:List Expr} {s:Shared},(∀ e∈vs,bO prog w mg mb base n hd l sc σ e (rec e))→Inv0 prog w mg mb base l env sc σ av s →
  ∀ {β:Type} {k:Bool→R β} {fin:R β} {Q:Bool→Shared→Prop} {E:Value→Shared→Prop},Fin (tst (jI rec vs)) k fin→(∀ b s',K l s s'→k b=fin→Q b s')→EH prog w mg l s av fin E→wpAny (model prog w) A (allTrue .Or vs env) Q E s:=by
 intro v0
 induction v0 with
 |nil =>
  intro _ _ _ _ _ _ _ _ hf _ _;exact hf.no.elim
 |cons e r0 ih =>
  cases r0 with
  |nil =>
   intro s h I _ _ _ _ _ hf hq he;exact wpAny_allTrue_Or_cons (h e List.mem_cons_self A env s av hA I hf (fun b s₁ k1 h1=>by
    cases b with
    |true=>exact hq _ _ k1 h1
    |false=>exact wpAny_allTrue_Or_nil (hq _ _ k1 h1)) he)
  |cons e' r =>
   intro s h I _ k _ _ _ hf hq he;exact wpAny_allTrue_Or_cons (h e List.mem_cons_self A env s av hA I (k:=fun b=>if b then k true else rb (tst (jI rec (e'::r))) k) ⟨by
    rw[← hf.1];show rb (tst (rec e)) _=rb (rb (rb (rec e) _) _) k;cases rec e with
    |ok v =>
     show rb (ofP (cG v)) _=rb (rb (rb (ofP (cG v)) _) _) k;cases ht:cG v with
     |ok b=>cases iA ht;cases b<;>rfl
     |_=>rfl
    |_=>rfl,hf.2⟩ (fun b s₁ k1 h1=>by
    cases b with
    |false=>exact ih (fun x hx=>h x (List.mem_cons_of_mem _ hx)) (I.k k1) ⟨h1,hf.2⟩ (fun b s' k2 e=>hq b s' (k1.tr k2) e) (he.back k1)
    |true=>exact hq _ _ k1 h1) he)
end
end Mine
namespace Mine
open PySem
section
variable {prog:Program} {w:World} {mg mb:Str→Option Value} {base:Heap} {n:Nat} {hd:Bool} {l:List Env} {sc:Scope} {σ:aA}
theorem wN{M:Model}{A:Around}{vs:List Value}{m:Sem Value}{Q:Value→Shared→Prop}{E:Value→Shared→Prop}{s:Shared}(h:wpAny M A m Q E s):wpAny M A (operate vs m) Q E s :=
 fun Γ p hΓ=>by rw[Sem.wp_operate];exact h Γ p hΓ
theorem wO{M:Model}{A:Around}{vs ks:List Value}{Q:Unit→Shared→Prop}{E:Value→Shared→Prop}{s:Shared}(h:Q () s):wpAny M A (release vs ks) Q E s :=
 fun Γ p hΓ=>by rw[Sem.wp_release];exact h
theorem mM{A:Around}{s₁:Shared}{av:Addr→Prop}{op:CmpOp}{va vb:Value}{a b:PyData}{β:Type}{k:Bool→R β}{fin:R β}{Q:Value→Shared→Prop}{E:Value→Shared→Prop}(hA:Room n hd l A)(ra:Rep prog w s₁.heap av va a)(rb:Rep prog w s₁.heap av vb b)
  (hf:Fin (ofP (cmp op a b)) k fin) (hq:∀ b s',Kp s₁ s'→k b=fin→Q (.bool b) s'):wpAny (model prog w) A (compareOp op va vb) Q E s₁ :=
 Yd.fin (Gr hA.units80 ra rb) hf fun v s' b r e=>by rw[r.2];exact hq b s' r.1 e
theorem pY{rec:Expr→R V}(hbad:∀ e,bad e=true→rec e=.no){e:Expr}{op:CmpOp}{A:Around}{env:Env}{s:Shared}{av:Addr→Prop}{pos:Pos}{va:Value}{a:PyData}
  (h:aE prog w mg mb base n hd l sc σ e (rec e)) (hA:Room n hd l A) (I:Inv0 prog w mg mb base l env sc σ av s) (ra:Rep prog w s.heap av va a) {β:Type} {k:Bool→R β} {fin:R β} {E:Value→Shared→Prop} (hf:Fin (pA rec a op e) k fin) (he:EH prog w mg l s av fin E) :
  (∀ {Q:Value→Shared→Prop},(∀ b s',K l s s'→k b=fin→Q (.bool b) s')→wpAny (model prog w) A (compareChain pos va [op] [markedBehindIn op e (eval e env)]) Q E s) ∧
  (∀ {Q:Bool→Shared→Prop},(∀ b s',K l s s'→k b=fin→Q b s')→wpAny (model prog w) A (testChain pos va [op] [markedBehindIn op e (eval e env)]) Q E s):=by
 rw[Gk (eL (hbad e) (Fin.b hf).ne)];constructor<;>intro Q hq
 ·refine wpAny_bind (wpAny_holding (h A env s av hA I (Fin.b hf) (fun vb s₁ u k1 rb h1=>wpAny_bind (wpAny_standAt (wN ?_))) he));exact mM hA (ra.k I.gnd.fav k1) (rb.rep I.gnd.avlt) ⟨h1,hf.2⟩ fun b s' kk e=>hq b s' (k1.trp kk) e
 ·refine wpAny_bind (wpAny_holding (h A env s av hA I (Fin.b hf) (fun vb s₁ u k1 rb h1=>wpAny_bind (wpAny_standAt (wpAny_bind (wN ?_)))) he));exact mM hA (ra.k I.gnd.fav k1) (rb.rep I.gnd.avlt) ⟨h1,hf.2⟩ fun b s' kk e=>wpAny_holding (wpAny_truthy_bool (hq b s' (k1.trp kk) e))
theorem wP{rec:Expr→R V}(hbad:∀ e,bad e=true→rec e=.no){es:List Expr}{ops:List CmpOp}{A:Around}{env:Env}{s:Shared}{av:Addr→Prop}{pos:Pos}{va:Value}{a:PyData}
  (h:∀ e∈es,aE prog w mg mb base n hd l sc σ e (rec e)) (hA:Room n hd l A) (I:Inv0 prog w mg mb base l env sc σ av s) (ra:Rep prog w s.heap av va a) {β:Type} {k:Bool→R β} {fin:R β} {E:Value→Shared→Prop} (hf:Fin (lE rec a ops es) k fin) (he:EH prog w mg l s av fin E) :
  (∀ {Q:Value→Shared→Prop},(∀ b s',K l s s'→k b=fin→Q (.bool b) s')→wpAny (model prog w) A (compareChain pos va ops (markedEach ops es (evalEach es env))) Q E s) ∧
  (∀ {Q:Bool→Shared→Prop},(∀ b s',K l s s'→k b=fin→Q b s')→wpAny (model prog w) A (testChain pos va ops (markedEach ops es (evalEach es env))) Q E s):=by
 cases ops with
 |nil=>exact hf.no.elim
 |cons op ops =>
  cases es with
  |nil=>exact hf.no.elim
  |cons e es =>
   have h1:=h e List.mem_cons_self;cases ops with
   |nil =>
    cases es with
    |nil=>exact pY hbad h1 hA I ra hf he
    |cons=>exact hf.no.elim
   |cons op' ops =>
    cases es with
    |nil=>exact hf.no.elim
    |cons e' es =>
     have h2:=h e' (List.mem_cons_of_mem _ List.mem_cons_self);cases ops with
     |cons=>exact hf.no.elim
     |nil =>
      cases es with
      |cons=>exact hf.no.elim
      |nil =>
       constructor<;>intro Q hq
       ·refine wpAny_bind (wpAny_holding (h1 A env s av hA I (Fin.b hf) (fun vb s₁ u k1 rb g1=>wpAny_bind (wpAny_standAt (wpAny_bind (wpAny_holding ?_)))) he));have r1:=rb.rep I.gnd.avlt;refine mM hA (ra.k I.gnd.fav k1) r1 (Fin.b ⟨g1,hf.2⟩) fun t s₂ kk g2=>wpAny_bind (wO (wpAny_bind (wpAny_holding (wpAny_truthy_bool ?_))));have k2:=k1.trp kk;cases t with
        |false=>exact wpAny_pure (hq _ _ k2 g2)
        |true=>exact(pY hbad h2 hA (I.k k2) (r1.keeps kk.heap) ⟨g2,hf.2⟩ (he.back k2)).1 fun b s' k3 g3=>hq _ _ (k2.tr k3) g3
       ·refine wpAny_bind (wpAny_holding (h1 A env s av hA I (Fin.b hf) (fun vb s₁ u k1 rb g1=>wpAny_bind (wpAny_standAt (wpAny_bind (wpAny_holding ?_)))) he));have r1:=rb.rep I.gnd.avlt;refine mM hA (ra.k I.gnd.fav k1) r1 (Fin.b ⟨g1,hf.2⟩) fun t s₂ kk g2=>wpAny_bind (wO (wpAny_bind (wpAny_holding (wpAny_truthy_bool ?_))));have k2:=k1.trp kk;cases t with
        |false=>exact wpAny_pure (hq _ _ k2 g2)
        |true=>exact(pY hbad h2 hA (I.k k2) (r1.keeps kk.heap) ⟨g2,hf.2⟩ (he.back k2)).2 fun b s' k3 g3=>hq _ _ (k2.tr k3) g3
theorem G9{rec:Expr→R V}(hbad:∀ e,bad e=true→rec e=.no){e:Expr}{ops:List CmpOp}{es:List Expr}{pos:Pos}(hl:aE prog w mg mb base n hd l sc σ e (rec e))
  (h:∀ e∈es,aE prog w mg mb base n hd l sc σ e (rec e)):aE prog w mg mb base n hd l sc σ (.Compare e ops es pos) (rb (rec e) fun a=>aV (lE rec (dOf a) ops es)):=by
 intro A env s av hA I β k fin Q E hf hq he;refine wpAny_bind (hl A env s av hA I hf.b (fun va s₁ a k1 ra h1=>?_) he);exact(wP hbad h hA (I.k k1) (ra.rep I.gnd.avlt) (Fin.b ⟨h1,hf.2⟩) (he.back k1)).1 fun b s' k2 e=>hq _ _ (.fz (.bool b)) (k1.tr k2) (.bool b) e
theorem Ha{rec:Expr→R V}(hbad:∀ e,bad e=true→rec e=.no){e:Expr}{ops:List CmpOp}{es:List Expr}{pos:Pos}(hl:aE prog w mg mb base n hd l sc σ e (rec e))
  (h:∀ e∈es,aE prog w mg mb base n hd l sc σ e (rec e)):bO prog w mg mb base n hd l sc σ (.Compare e ops es pos) (rb (rec e) fun a=>aV (lE rec (dOf a) ops es)):=by
 intro A env s av hA I β k fin Q E hf hq he;refine wpAny_bind (hl A env s av hA I (Fin.b (Fin.b hf)) (fun va s₁ a k1 ra h1=>?_) he);exact(wP hbad h hA (I.k k1) (ra.rep I.gnd.avlt) (Fin.b ⟨h1,hf.2⟩) (he.back k1)).2 fun b s' k2 e=>hq _ _ (k1.tr k2) e
noncomputable def pZ(prog:Program)(w:World)(mg mb:Str→Option Value)(base:Heap)(n:Nat)(hd:Bool)(l:List Env)(sc:Scope)(σ:aA)(av:Addr→Prop)(C:Shared→Value→V→Prop)(e:Expr)(r:R V):Prop :=
 ∀ (A:Around) (env:Env) (s:Shared),Room n hd l A→Inv0 prog w mg mb base l env sc σ av s →
  ∀ {β:Type} {k:V→R β} {fin:R β} {Q:Value→Shared→Prop} {E:Value→Shared→Prop},Fin r k fin→(∀ v s' u,K l s s'→C s' v u.clear→k u=fin→Q v s')→EH prog w mg l s av fin E→wpAny (model prog w) A (eval e env) Q E s
noncomputable def eV(C:Shared→Value→V→Prop)(s:Shared):List Value→List V→Prop
 | [],[]=>True
 |v::vs,u::us=>C s v u∧eV C s vs us
 |_,_=>False
theorem eV.len{C:Shared→Value→V→Prop}{s:Shared}:∀ {vs:List Value} {us:List V},eV C s vs us→vs.length=us.length
 | [],[],_=>rfl
 |_::_,_::_,h=>congrArg Nat.succ h.2.len
 | [],_::_,h=>h.elim
 |_::_,[],h=>h.elim
theorem eV.at{C:Shared→Value→V→Prop}{s:Shared}:∀ {vs:List Value} {us:List V},eV C s vs us→∀ (i:Nat) (v:Value) (u:V),vs[i]?=some v→us[i]?=some u→C s v u
 |_::_,_::_,h,0,_,_,e1,e2=>by obtain rfl:=si e1;obtain rfl:=si e2;exact h.1
 |_::_,_::_,h,i+1,_,_,e1,e2=>h.2.at i _ _ e1 e2
 | [],[],_,i,_,_,e1,_=>by exact ns e1
 | [],_::_,h,_,_,_,_,_=>h.elim
 |_::_,[],h,_,_,_,_,_=>h.elim
theorem wQ{rec:Expr→R V}(hbad:∀ e,bad e=true→rec e=.no){A:Around}{env:Env}{av:Addr→Prop}{C:Shared→Value→V→Prop}(hC:∀ s s' v u,K l s s'→C s v u→C s' v u){pos:Pos}(hA:Room n hd l A):∀ {es:List Expr} {s:Shared},(∀ e∈es,pZ prog w mg mb base n hd l sc σ av C e (rec e))→Inv0 prog w mg mb base l env sc σ av s →
  ∀ {β:Type} {k:List V→R β} {fin:R β} {Q:List Value→Shared→Prop} {E:Value→Shared→Prop},Fin (evs rec es) k fin→(∀ vs s' us,K l s s'→eV C s' vs us→k us=fin→Q vs s')→EH prog w mg l s av fin E →
   wpAny (model prog w) A (spliced (backTo pos (starEach es env))) Q E s:=by
 intro v0
 induction v0 with
 |nil =>
  intro s _ _ _ _ _ _ _ hf hq _;exact wpAny_items_nil (hq _ _ [] (K.rf l s) trivial hf.ok)
 |cons e es ih =>
  intro s h I _ _ _ _ _ hf hq he;have hst:starEach (e::es) env=_:=eK (eL (hbad e) (Fin.b hf).ne);refine wpAny_items_cons (h e List.mem_cons_self A env s hA I (Fin.b hf) (fun v s₁ u k1 r h1=>?_) he) hst;refine ih (fun x hx=>h x (List.mem_cons_of_mem _ hx)) (I.k k1) (Fin.b ⟨h1,hf.2⟩) (fun vs s₂ us k2 rs h2=>?_) (he.back k1);exact hq _ _ (u.clear::us) (k1.tr k2) ⟨hC _ _ _ _ k2 r,rs⟩ h2
theorem Hb(u:V):dOf u.clear=dOf u:=by cases u<;>rfl
abbrev CD(prog:Program)(w:World)(av:Addr→Prop)(s:Shared)(v:Value)(u:V):Prop:=Rep prog w s.heap av v (dOf u)
theorem aE.item{av:Addr→Prop}{e:Expr}{r:R V}(h:aE prog w mg mb base n hd l sc σ e r):pZ prog w mg mb base n hd l sc σ av (CD prog w av) e r :=
 fun A env s hA I _ _ _ _ _ hf hq he=>h A env s av hA I hf (fun v s' u k r e=>hq v s' u k (show Rep _ _ _ _ _ _ from (Hb u).symm▸r.rep I.gnd.avlt) e) he
theorem wR{s:Shared}{av:Addr→Prop}{vs:List Value}{us:List V}(r:eV (CD prog w av) s vs us):vs.length=(bJ us).length∧∀ (i:Nat) (v:Value) (d:PyData),vs[i]?=some v→(bJ us)[i]?=some d→Rep prog w s.heap av v d:=by
 refine⟨by rw[bJ,List.length_map];exact r.len,fun i v d e1 e2=>?_⟩;rw[bJ,List.getElem?_map,Option.map_eq_some_iff] at e2;obtain⟨u,e,rfl⟩:=e2;exact r.at i v u e1 e
theorem gC{rec:Expr→R V}(hbad:∀ e,bad e=true→rec e=.no){A:Around}{env:Env}{s:Shared}{av:Addr→Prop}{pos:Pos}(hA:Room n hd l A){es:List Expr}(h:∀ e∈es,aE prog w mg mb base n hd l sc σ e (rec e))(I:Inv0 prog w mg mb base l env sc σ av s)
  {β:Type} {k:List V→R β} {fin:R β} {Q:List Value→Shared→Prop} {E:Value→Shared→Prop} (hf:Fin (evs rec es) k fin)
  (hq:∀ vs s' us,K l s s'→vs.length=(bJ us).length→(∀ (i:Nat) (v:Value) (d:PyData),vs[i]?=some v→(bJ us)[i]?=some d→Rep prog w s'.heap av v d)→k us=fin→Q vs s') (he:EH prog w mg l s av fin E) :
   wpAny (model prog w) A (spliced (backTo pos (starEach es env))) Q E s :=
 wQ (C:=CD prog w av) hbad (fun _ _ _ _ k r=>Rep.k I.gnd.fav k r) hA (fun e m=>(h e m).item) I hf (fun vs s' us k r e=>hq vs s' us k (wR r).1 (wR r).2 e) he
theorem Hc{rec:Expr→R V}(hbad:∀ e,bad e=true→rec e=.no){es:List Expr}{pos:Pos}(h:∀ e∈es,aE prog w mg mb base n hd l sc σ e (rec e)) :
  aE prog w mg mb base n hd l sc σ (.List es pos) (rb (evs rec es) fun l=>if l.length≤aI then .ok (.own (.list (bJ l))) else .no):=by
 intro A env s av hA I β k fin Q E hf hq he;refine wpAny_List (gC hbad hA h I hf.b (fun vs s₁ us k1 h1 h2 e1=>?_) he);obtain⟨hz,e2⟩:=Fin.ite ⟨e1,hf.2⟩;have hz:vs.length≤sizeLine:=by rw[h1,bJ,List.length_map];exact hz
 exact⟨hz,hq.step k1 (pW (Kp.rfl' _) h1 hz h2) e2.ok⟩
theorem Hd{rec:Expr→R V}(hbad:∀ e,bad e=true→rec e=.no){es:List Expr}{t:Nat}{pos:Pos}(h:∀ e∈es,aE prog w mg mb base n hd l sc σ e (rec e)) :
  aE prog w mg mb base n hd l sc σ (.Tuple es t pos) (rb (evs rec es) fun l=>if l.length≤aI then .ok (.fz (.tuple (bJ l))) else .no):=by
 intro A env s av hA I β k fin Q E hf hq he;refine wpAny_Tuple (gC hbad hA h I hf.b (fun vs s₁ us k1 h1 h2 e1=>?_) he);obtain⟨hz,e2⟩:=Fin.ite ⟨e1,hf.2⟩;have hz:vs.length≤sizeLine:=by rw[h1,bJ,List.length_map];exact hz
 exact⟨hz,hq.step k1 (pX (Kp.rfl' _) (I.gnd.k k1).avlt h1 hz h2) e2.ok⟩
end
end Mine
namespace Mine
open PySem
section
variable {prog:Program} {w:World} {mg mb:Str→Option Value} {base:Heap} {n:Nat} {hd:Bool} {l:List Env} {sc:Scope} {σ:aA}
noncomputable def bY(prog:Program)(w:World)(h:Heap)(av:Addr→Prop)(v:Value)(d:PyData):Prop:=Rep prog w h av v d∨∃ a,v=.ref a∧bI prog w h av a d
theorem bY.keeps{h h':Heap}{av:Addr→Prop}{v:Value}{d:PyData}(hk:∀ b o,h.get? b=some o→h'.get? b=some o)(r:bY prog w h av v d):bY prog w h' av v d :=
 r.imp (·.keeps hk) fun hh=>by obtain⟨a,e,r⟩:=hh;exact⟨a,e,r.mono (fun b o _ e=>hk b o e) (fun _ _ _ x=>x) fun o e=>hk _ o e⟩
theorem Rep.ref_not{h:Heap}{av:Addr→Prop}{v:Value}{d:PyData}{a:Addr}(r:Rep prog w h av v d)(e:v=.ref a):¬ av a:=by
 cases r with
 |list h1=>cases e;exact h1
 |tuple h1=>cases e;exact h1
 |dict h1=>cases e;exact h1
 |_=>cases e
theorem bY.k{s s':Shared}{av:Addr→Prop}{v:Value}{d:PyData}(fav:∀ b,frs l b→av b)(k:K l s s')(r:bY prog w s.heap av v d∧(∀ a,v=.ref a→¬ frs l a)):bY prog w s'.heap av v d∧(∀ a,v=.ref a→¬ frs l a) :=
 ⟨r.1.imp (·.k fav k) fun hh=>by obtain⟨a,e,b⟩:=hh;exact⟨a,e,b.k fav k (r.2 a e)⟩,r.2⟩
inductive TopL(prog:Program)(w:World)(h:Heap)(av:Addr→Prop)(v:Value)(ds:List PyData):Prop where
 |mk (a:Addr) (vs:List Value) (e:v=.ref a) (p:h.PlainList a (List.toArray vs)) (l:vs.length=ds.length) (z:vs.length≤sizeLine) (r:∀ (i:Nat) (v:Value) (d:PyData),vs[i]?=some v→ds[i]?=some d→Rep prog w h av v d):TopL prog w h av v ds
inductive TopT(prog:Program)(w:World)(h:Heap)(av:Addr→Prop)(v:Value)(ds:List PyData):Prop where
 |mk (a:Addr) (vs:List Value) (e:v=.ref a) (p:PlT h a (List.toArray vs)) (l:vs.length=ds.length) (z:vs.length≤sizeLine) (r:∀ (i:Nat) (v:Value) (d:PyData),vs[i]?=some v→ds[i]?=some d→Rep prog w h av v d):TopT prog w h av v ds
theorem bY.list{h:Heap}{av:Addr→Prop}{v:Value}{ds:List PyData}(r:bY prog w h av v (.list ds)):TopL prog w h av v ds:=by
 rcases r with r | ⟨a,e,vs,r1,r2,r3,r4⟩
 ·cases r with
  |list h1 h2 h3 h4 h5=>exact⟨_,_,rfl,h2,h3,h4,h5⟩
 ·exact⟨a,vs,e,r1,r2,r3,r4⟩
theorem bY.tuple{h:Heap}{av:Addr→Prop}{v:Value}{ds:List PyData}(r:bY prog w h av v (.tuple ds)):TopT prog w h av v ds:=by
 rcases r with r | ⟨a,e,r⟩
 ·cases r with
  |tuple h1 h2 h3 h4 h5=>exact⟨_,_,rfl,h2,h3,h4,h5⟩
 ·exact r.elim
inductive TopD(prog:Program)(w:World)(h:Heap)(av:Addr→Prop)(v:Value)(ds:List (PyData×PyData)):Prop where
 |mk (a:Addr) (kvs:List (Str×Value)) (e:v=.ref a) (p:h.DictOf (strKind prog w) a kvs) (z:kvs.length≤sizeLine∧∀ kv∈kvs,kv.1.length≤sizeLine) (m:(a==sysModules)=false)
  (l:ds.map (·.1)=kvs.map (fun kv=>PyData.str kv.1)) (r:∀ (i:Nat) (kv:Str×Value) (d:PyData×PyData),kvs[i]?=some kv→ds[i]?=some d→Rep prog w h av kv.2 d.2):TopD prog w h av v ds
theorem bY.dict{h:Heap}{av:Addr→Prop}{v:Value}{ds:List (PyData×PyData)}(r:bY prog w h av v (.dict ds)):TopD prog w h av v ds:=by
 rcases r with r | ⟨a,e,kvs,r1,r2,r3,r4,r5⟩
 ·obtain⟨a,kvs,e,_,r1,r2,r3,r4,r5⟩:=r.dict_inv;exact⟨a,kvs,e,r1,r2,r3,r4,r5⟩
 ·exact⟨a,kvs,e,r1,r2,r3,r4,r5⟩
theorem bY.str{h:Heap}{av:Addr→Prop}{v:Value}{x:Str}(r:bY prog w h av v (.str x)):∃ t,v=.str x t∧x.length≤sizeLine:=by
 rcases r with r | ⟨a,e,r⟩
 ·exact r.str_inv
 ·exact r.elim
theorem Yd.frz{γ:Type}{W:WP γ}{R:γ→Shared→V→Prop}{o:Option PyData}(k:∀ d,o=some d→Yd W R (.ok (.fz d))):Yd W R (frz o):=by
 cases o with
 |none=>exact trivial
 |some d=>exact k d rfl
noncomputable def wS(s:Shared)(v:Value):Prop:=∃ T id,s.TypeIs v T∧typeLookup (.type T) "__getitem__" = pure (some (.builtin id))
noncomputable def GS(prog:Program)(w:World)(A:Around)(s:Shared)(av:Addr→Prop)(va vi:Value)(p:P V):Prop :=
 Yd (fun Q E=>wS s va∧wpAny (model prog w) A (PySem.getItem va vi) Q E s) (fun v s' u=>Kp s s'∧aY prog w s s'.heap av v u) p
theorem wT{α β:Type}{xs:List α}{ys:List β}(hl:xs.length=ys.length){i:Nat}{y:β}(e:ys[i]?=some y):∃ x,xs[i]?=some x :=
 ⟨_,List.getElem?_eq_getElem (hl▸(List.getElem?_eq_some_iff.mp e).1)⟩
theorem qA{k:Int}{n:Nat}(h:0≤k∧k < n)(hn:n≤sizeLine):-2 ^ 63≤k∧k < 2 ^ 63:=by
 have hs:sizeLine=16777216:=sizeLine_eq;lia
theorem He{A:Around}{s:Shared}{av:Addr→Prop}{va vi:Value}{a i:PyData}(ra:bY prog w s.heap av va a)(ri:Rep prog w s.heap av vi i):GS prog w A s av va vi (getItem a i):=by
 cases i with
 |int k =>
  obtain⟨t,rfl⟩:=ri.int_inv;cases a with
  |list l =>
   obtain⟨ad,vs,rfl,h2,h3,h4,h5⟩:=ra.list;refine Yd.ite2 (fun _=>Yd.ite fun c=>Yd.frz fun d e=>?_) fun _=>Yd.ite fun c=>Yd.frz fun d e=>?_<;>obtain⟨v,e1⟩:=wT h3 e
   ·exact fun Q E hq=>⟨⟨"list", _,h2.isList.typeIs,list_getitem_lookup⟩,wpAny_getItem_list h2.isList c.1 (qA (h3▸c) h4).2 (by simpa using e1) (hq _ _ ⟨Kp.rfl' s,h5 _ _ _ e1 e⟩)⟩
   ·rw[← h3] at c e1;exact fun Q E hq=>⟨⟨"list", _,h2.isList.typeIs,list_getitem_lookup⟩,wpAny_getItem_list_neg h2.isList c.1 c.2 (by have:=sizeLine_eq;lia) (by simpa using e1) (hq _ _ ⟨Kp.rfl' s,h5 _ _ _ e1 (h3▸e)⟩)⟩
  |tuple l =>
   obtain⟨ad,vs,rfl,h2,h3,h4,h5⟩:=ra.tuple;refine Yd.ite fun c=>Yd.frz fun d e=>?_;obtain⟨v,e1⟩:=wT h3 e;have hf:=qA (h3▸c) h4;exact fun Q E hq=>⟨⟨"tuple", _,h2.isTuple.typeIs,PyProof.Rows.slot_tuple_getitem.lookup⟩,by obtain⟨n,h2⟩:=h2;exact P.getItem_tuple h2 hf.1 hf.2 (k:=k.toNat) (seqIndex_of c.1 (h3▸c).2) (by simpa using e1) (hq _ _ ⟨Kp.rfl' s,h5 _ _ _ e1 e⟩)⟩
  |str x =>
   obtain⟨t',rfl,hx⟩:=ra.str;refine Yd.ite fun c=>Yd.frz fun d e=>?_;obtain⟨ch,e1,rfl⟩:=Option.map_eq_some_iff.mp e;have hf:=qA c hx;exact fun Q E hq=>⟨⟨"str", _,rfl,PyProof.Rows.slot_str_getitem.lookup⟩,PyProof.Rows.getItem_str (Bool.or_eq_false_iff.mpr ⟨decide_eq_false (Int.not_lt.mpr hf.1),decide_eq_false (Int.not_le.mpr hf.2)⟩) (c:=ch)
    (by rw[show seqIndex? k x.length=some k.toNat from seqIndex_of c.1 c.2];exact e1) (hq _ _ ⟨Kp.tok' s _,.str _ _ (by rw[sizeLine_eq];exact Nat.le_of_ble_eq_true rfl)⟩)⟩
  |_=>exact trivial
 |str x =>
  obtain⟨t,rfl,hx⟩:=ri.str_inv;cases a with
  |dict l =>
   obtain⟨ad,kvs,rfl,h2,h3,h4,h5,h6⟩:=ra.dict;refine Yd.frz fun d e=>?_;rcases mI x h5 with ⟨e1,e2⟩ | ⟨i,v,d',e1,e2,e3,e4⟩
   ·rw[e2] at e;exact ns e
   ·rw[e2] at e;obtain rfl:=si e;exact fun Q E hq=>⟨⟨"dict", _,h2.typeIs,F.slot_dict_getitem.lookup⟩,wpAny_getItem_of (dZ x t) h2.mapOf e1 (hq _ _ ⟨Kp.tok' s _,h6 i _ _ e3 e4⟩)⟩
  |_=>exact trivial
 |_=>exact trivial
theorem wU{A:Around}{E:Value→Shared→Prop}{s:Shared}{env:Env}{value slice:Expr}{pos:Pos}{Q:Value→Shared→Prop}(hs:∃ f:Value→Value→List Value,∀ o i,subscripted slice false o i=operate (f o i) (PySem.getItem o i))
  (h:wpAny (model prog w) A (eval value env) (fun o s₁=>wpAny (model prog w) A (eval slice env) (fun i s₂=>wS s₂ o∧wpAny (model prog w) A (PySem.getItem o i) Q E s₂) E s₁) E s) :
  wpAny (model prog w) A (eval (.Subscript value slice pos) env) Q E s:=by
 rw[eval_Subscript];refine wpAny_bind (wpAny_mono h (fun o s₁ h₁=>wpAny_bind (wpAny_holding (wpAny_mono h₁ (fun i s₂ h₂=>wpAny_bind (wpAny_standAt ?_)) fun _ _ x=>x))) fun _ _ x=>x);obtain⟨⟨T,id,hT,hl⟩,hg⟩:=h₂;refine wpAny_bind ?_;rw[getitemInPython_of_ne hT.not_modules];refine wpAny_bind (wpAny_specialOf hT hl ?_);have fin:wpAny (model prog w) A (subscripted slice false o i) (fun r s₃=>wpAny (model prog w) A (letTemporaryGo value o r >>= fun _=>pure r) Q E s₃) E s₂:=by
  obtain⟨f,hs⟩:=hs;rw[hs];exact wpAny_operating (wpAny_mono hg (fun r s₃ h₃=>wpAny_bind (wpAny_letTemporaryGo (wpAny_pure h₃))) fun _ _ x=>x)
 first
  |exact wpAny_pure (wpAny_bind fin)
  |exact wpAny_bind (wpAny_pure (wpAny_bind fin))
  |exact wpAny_bind fin
theorem wV{o:Option (Option V)}{α:Type}{f:V→Option α}{d:α}(h:(match o with | some o=>(match o with | some v=>f v | none=>none) | none=>none)=some d):∃ v,o=some (some v)∧f v=some d:=by
 cases o with
 |none=>exact ns h
 |some o =>
  cases o with
  |none=>exact ns h
  |some v=>exact⟨v,rfl,h⟩
theorem wW{c:Prop}[Decidable c]{α:Type}{a b:α}(h:(if c then some a else none)=some b):c∧a=b:=by
 by_cases hc:c
 ·rw[if_pos hc] at h;obtain rfl:=si h;exact⟨hc,rfl⟩
 ·rw[if_neg hc] at h;exact ns h
theorem wX{x:Str}{d:PyData}(h:jN sc σ x=some d):isL sc x=true∧aA.get σ x=some (some (.own d)):=by
 obtain⟨v,e,h⟩:=wV (f:=fun v=>match v with | .own d=>if isL sc x then some d else none | _=>none) h;cases v with
 |own d'=>obtain⟨hl,rfl⟩:=wW h;exact⟨hl,e⟩
 |_=>exact ns h
theorem Hf{x:Str}{d:X}(h:u9 sc σ x=some d):isL sc x=true∧aA.get σ x=some (some (.ex d)):=by
 obtain⟨v,e,h⟩:=wV (f:=fun v=>match v with | .ex d=>if isL sc x then some d else none | _=>none) h;cases v with
 |ex d'=>obtain⟨hl,rfl⟩:=wW h;exact⟨hl,e⟩
 |_=>exact ns h
theorem Hg{e:Expr}{d:PyData}(h:lL sc σ e=some d):∃ x p,e=.Name x p∧isL sc x=true∧aA.get σ x=some (some (.own d)):=by
 unfold lL at h;refine ocs (bB e) (fun hn=>?_) fun x hn=>?_
 ·try rewrite[hn]
  rw[hn] at h;exact ns h
 ·try rewrite[hn]
  rw[hn] at h;obtain⟨p,rfl⟩:=cW hn;exact⟨x,p,rfl,wX h⟩
theorem Hh{e:Expr}{d:X}(h:jO sc σ e=some d):∃ x p,e=.Name x p∧isL sc x=true∧aA.get σ x=some (some (.ex d)):=by
 unfold jO at h;refine ocs (bB e) (fun hn=>?_) fun x hn=>?_
 ·try rewrite[hn]
  rw[hn] at h;exact ns h
 ·try rewrite[hn]
  rw[hn] at h;obtain⟨p,rfl⟩:=cW hn;exact⟨x,p,rfl,Hf h⟩
theorem wY{rec:Expr→R V}{o:Expr}(h:aE prog w mg mb base n hd l sc σ o (rec o)){A:Around}{env:Env}{s:Shared}{av:Addr→Prop}(hA:Room n hd l A)(I:Inv0 prog w mg mb base l env sc σ av s)
  {β:Type} {k:PyData→R β} {fin:R β} {Q:Value→Shared→Prop} {E:Value→Shared→Prop} (hf:Fin (lM rec sc σ o) k fin) (hq:∀ v s' d,K l s s'→bY prog w s'.heap av v d∧(∀ a,v=.ref a→¬ frs l a)→k d=fin→Q v s') (he:EH prog w mg l s av fin E):wpAny (model prog w) A (eval o env) Q E s:=by
 unfold lM at hf;refine ocs (lL sc σ o) (fun e=>?_) fun d e=>?_
 ·try rewrite[e]
  rw[e] at hf;exact h A env s av hA I hf.b (fun v s₁ u k1 r h1=>hq _ _ _ k1 ⟨.inl (r.rep I.gnd.avlt),fun a ha f=>(r.rep I.gnd.avlt).ref_not ha (I.gnd.fav _ f)⟩ h1) he
 ·try rewrite[e]
  rw[e] at hf;obtain⟨x,pos,rfl,hl,e⟩:=Hg e;obtain⟨u,h1,a,rfl,n1,h2⟩:=I.get _ _ hl e;exact fP I hl h1 (hq _ _ _ (K.rf l s) ⟨.inr ⟨a,rfl,h2⟩,fun a' ha=>by cases ha;exact n1⟩ hf.ok)
theorem Hi{α:Type}(l:List α)(lo hi:Option Int):(slice l lo hi).length≤l.length:=by
 unfold slice;rw[List.length_take,List.length_drop];exact Ct
theorem Hj{α β:Type}{l:List α}{m:List β}(hl:l.length=m.length){lo hi:Option Int}{i:Nat}{x:α}{y:β}(e1:(slice l lo hi)[i]?=some x)(e2:(slice m lo hi)[i]?=some y) :
  ∃ j:Nat,l[j]?=some x∧m[j]?=some y:=by
 unfold slice at e1 e2;rw[← hl] at e2;rw[List.getElem?_take] at e1 e2
 split at e1
 ·rename_i h;rw[if_pos h] at e2;rw[List.getElem?_drop] at e1 e2;exact⟨_,e1,e2⟩
 ·exact ns e1
theorem Hk{α β:Type}{l:List α}{m:List β}(hl:l.length=m.length)(lo hi:Option Int):(slice l lo hi).length=(slice m lo hi).length:=by
 unfold slice;rw[List.length_take,List.length_take,List.length_drop,List.length_drop,hl]
noncomputable def qB(v:Value)(k:Option Int):Prop:=IsPart v k∧∃ p,v=partValue p∧p.map (·.1)=k
theorem wZ{rec:Expr→R V}{e:Option Expr}(h:∀ x,e=some x→aE prog w mg mb base n hd l sc σ x (rec x)){A:Around}{env:Env}{s:Shared}{av:Addr→Prop}(hA:Room n hd l A)(I:Inv0 prog w mg mb base l env sc σ av s)
  {β:Type} {k:Option Int→R β} {fin:R β} {Q:Value→Shared→Prop} {E:Value→Shared→Prop} (hf:Fin (pH rec e) k fin) (hq:∀ v s' d,K l s s'→qB v d→k d=fin→Q v s') (he:EH prog w mg l s av fin E):wpAny (model prog w) A (evalPart e env) Q E s:=by
 cases e with
 |none=>exact wpAny_evalPart_none (hq _ _ none (K.rf l s) ⟨.none,none,rfl,rfl⟩ hf.ok)
 |some x =>
  refine wpAny_evalPart_some (h x rfl A env s av hA I (Fin.b hf) (fun v s₁ u k1 r h1=>?_) he);obtain⟨i,e1,e2⟩:=Fin.p ⟨h1,hf.2⟩;cases u with
  |fz d =>
   cases d with
   |int i =>
    obtain rfl:=pi e1;obtain⟨t,rfl⟩:=(show Rep prog w s₁.heap av v (.int i) from r).int_inv;exact hq _ _ _ k1 ⟨.int i t,some (i,t),rfl,rfl⟩ e2
   |_=>exact pno e1
  |_=>exact pno e1
noncomputable def mO(s:Shared)(vl vu:Value):Shared:={ s with heap:=s.heap.push { cls:=.type "slice", data:=.fields #[vl,vu,.none] } }
theorem Hl(x:Str)(lo hi:Option Int):Txt.slice x lo hi=⟨(slice x.cps.toList lo hi).toArray⟩:=by
 have key:(Builtin.Str.strSliceIndices lo hi 1 x.length).filterMap (x.cps[·]?)=slice x.cps.toList lo hi:=by
  have e:Builtin.Str.strSliceIndices lo hi 1 x.length=sliceRange (sliceBounds lo hi none x.length).1 (sliceBounds lo hi none x.length).2.1 (sliceBounds lo hi none x.length).2.2:=by
   cases lo<;>cases hi<;>rfl
  rw[e,sliceBounds_plain];simp only[sliceRange_one,pick_run];unfold slice;rw[Array.length_toList];rfl
 unfold Txt.slice
 split
 ·rename_i h;rw[← key];have hlen:(Builtin.Str.strSliceIndices lo hi 1 x.length).length=x.length:=by simpa using h
  have e:Builtin.Str.strSliceIndices lo hi 1 x.length=sliceRange (sliceBounds lo hi none x.length).1 (sliceBounds lo hi none x.length).2.1 (sliceBounds lo hi none x.length).2.2:=by
   cases lo<;>cases hi<;>rfl
  rw[key];rw[e,sliceBounds_plain] at hlen;simp only[sliceRange_one,List.length_map,List.length_range] at hlen;have hx:x.cps.toList.length=x.length:=by simp[Str.length]
  have hc:∀ i,clipAt x.length i≤x.length:=fun i=>by have:=clipAt_cast x.length i;omega
  have hlo:lo.elim 0 (clipAt x.length)=0∨x.length=0:=by
   by_cases h0:x.length=0
   ·exact .inr h0
   ·left;have:hi.elim x.length (clipAt x.length)≤x.length:=by cases hi with | none=>exact Nat.le_refl _ | some j=>exact hc j
    omega
  have:slice x.cps.toList lo hi=x.cps.toList:=by
   unfold slice;rw[hx,hlen];rcases hlo with h | h
   ·rw[h,List.drop_zero,← hx,List.take_length]
   ·have:x.cps.toList=[]:=List.length_eq_zero_iff.mp (hx.trans h);rw[this];simp
  rw[this]
 ·rw[key]
theorem Hm{A:Around}{s:Shared}{av:Addr→Prop}{va vl vu:Value}{a:PyData}{kl kh:Option Int}(hav:∀ b,av b→∃ o,s.heap.get? b=some o)(rt:bY prog w (mO s vl vu).heap av va a)(rl:qB vl kl)(rh:qB vu kh) :
  GS prog w A (mO s vl vu) av va (.ref s.heap.objs.size) (gW a kl kh):=by
 cases a with
 |list l =>
  obtain⟨ad,vs,rfl,p2,p3,p4,p5⟩:=rt.list;refine fun Q E hq=>⟨⟨"list", _,p2.isList.typeIs,list_getitem_lookup⟩,wpAny_getItem_list_slice p2.isList (Heap.IsSliceOf.new ..) rl.1 rh.1 .none (by simp) ?_ (by simpa using p4)⟩
  have e:slicePick vs.toArray kl kh none=(slice vs kl kh).toArray:=by rw[slicePick_plain];simp[slice]
  rw[e];exact hq _ _ (pW (Kp.rfl' _) (Hk p3 kl kh) (Nat.le_trans (Hi _ _ _) p4) fun i v d e1 e2=>by obtain⟨j,e3,e4⟩:=Hj p3 e1 e2;exact p5 j v d e3 e4)
 |str x =>
  obtain⟨t,rfl,hx⟩:=rt.str;obtain⟨_,pl,rfl,rfl⟩:=rl;obtain⟨_,pu,rfl,rfl⟩:=rh;have hlen:(Txt.slice x (pl.map (·.1)) (pu.map (·.1))).length≤sizeLine:=Nat.le_trans (Txt.slice_le x _ _) hx;show GS prog w A _ av _ _ (.ok (.fz (.str ⟨_⟩)));rw[← Hl x (pl.map (·.1)) (pu.map (·.1))];exact fun Q E hq=>⟨⟨"str", _,rfl,PyProof.Rows.slot_str_getitem.lookup⟩,wpAny_getItem_str_slice (l:=pl) (u:=pu) (st:=none) ⟨_,Heap.get?_push_size _ rfl,rfl,rfl⟩ rfl (post_val_or_str ⟨hlen,fun t' k=>hq _ _ ⟨Kp.tok' _ _,.str _ _ hlen⟩⟩)⟩
 |tuple l =>
  cases kl with
  |none=>exact trivial
  |some a =>
   cases kh with
   |some b=>exact trivial
   |none =>
    refine Yd.ite fun hc=>?_;obtain⟨ad,vs,rfl,p2,p3,p4,p5⟩:=rt.tuple;obtain⟨_,pl,rfl,mpl⟩:=rl;obtain⟨_,pu,rfl,mpu⟩:=rh;obtain⟨⟨i,t⟩,rfl,rfl⟩:=Option.map_eq_some_iff.mp mpl;obtain rfl:=Option.map_eq_none_iff.mp mpu;have hcast:((i.toNat:Nat):Int)=i:=Int.toNat_of_nonneg (Int.le_trans (by decide) hc.1);have hl:i.toNat≤vs.length:=by have:=hc.2;rw[p3];omega
    refine fun Q E hq=>⟨⟨"tuple", _,p2.isTuple.typeIs,PyProof.Rows.slot_tuple_getitem.lookup⟩,PyProof.Rows.getItem_tuple_from (a:=i.toNat) (u:=t) (items:=vs.toArray) (by obtain⟨n2,e2⟩:=p2;exact⟨_,e2,rfl,n2,rfl⟩) (by rw[hcast];exact Heap.IsSliceOf.new ..) (by have:=hc.1;omega) (by simpa using hl) ?_ (by simpa using p4)⟩
    exact hq _ _ (pX (prog:=prog) (w:=w) (s₁:=mO s (.int i t) .none) (vs:=vs.drop i.toNat) (ds:=l.drop i.toNat) (Kp.rfl' _) (fun b hb=>by obtain⟨o,e⟩:=hav b hb;exact⟨o,Heap.get?_push_of_some _ e⟩) (by simp[p3]) (Nat.le_trans (by simp) p4) fun j v d e1 e3=>by
     rw[List.getElem?_drop] at e1 e3;exact p5 _ v d e1 e3)
 |_=>exact trivial
theorem Hn{rec:Expr→R V}{o i:Expr}{pos:Pos}(ho:aE prog w mg mb base n hd l sc σ o (rec o))(hidx:aE prog w mg mb base n hd l sc σ i (rec i))
  (hs:∀ c,jP i=some c→(∀ x,c.1=some x→aE prog w mg mb base n hd l sc σ x (rec x))∧(∀ x,c.2.1=some x→aE prog w mg mb base n hd l sc σ x (rec x))) :
  aE prog w mg mb base n hd l sc σ (.Subscript o i pos) (pI rec sc σ o i):=by
 intro A env s av hA I β k fin Q E hf hq he;unfold pI at hf;refine ocs (jP i) (fun hv=>?_) fun c hv=>?_
 ·try rewrite[hv]
  rw[hv] at hf;refine bcs (bad i) (fun hb=>?_) fun hb=>?_
  ·try rewrite[hb]
   rw[hb] at hf;refine wU ⟨_,fun _ _=>Gl hb⟩ (wY ho hA I (Fin.b hf) (fun va s₁ a k1 ra h1=>?_) he);have I1:=I.k k1;exact hidx A env s₁ av hA I1 (Fin.b ⟨h1,hf.2⟩) (fun vi s₂ u k2 r h2=>Yd.fin (He (A:=A) (bY.k I.gnd.fav k2 ra).1 (r.rep I1.gnd.avlt)) ⟨h2,hf.2⟩ fun v s' u r e=>hq.step (k1.tr k2) r e) (he.back k1)
  ·try rewrite[hb]
   rw[hb] at hf;exact hf.no.elim
 ·try rewrite[hv]
  rw[hv] at hf;obtain⟨g1,g2⟩:=hs c hv;obtain⟨p,rfl⟩:=Gj hv;obtain⟨lo,hi,st⟩:=c;cases st with
  |some x=>exact hf.no.elim
  |none =>
   refine wU ⟨_,fun _ _=>rfl⟩ (wY ho hA I (Fin.b hf) (fun va s₁ a k1 ra h1=>?_) he);have I1:=I.k k1;refine wpAny_Slice (wZ g1 hA I1 (Fin.b ⟨h1,hf.2⟩) (fun vl s₂ kl k2 rl h2=>wZ g2 hA (I1.k k2) (Fin.b ⟨h2,hf.2⟩) (fun vu s₃ kh k3 rh h3=>wpAny_evalPart_none ?_) (he.back (k1.tr k2))) (he.back k1));have kk:=(k1.tr k2).tr k3;have hp:Kp s₃ (mO s₃ vl vu):=Kp.push' s₃ _;exact Yd.fin (Hm (A:=A) (I.gnd.k kk).avlt ((bY.k I.gnd.fav k3 (bY.k I.gnd.fav k2 ra)).1.keeps hp.heap) rl rh) ⟨h3,hf.2⟩ fun v s' u r e=>hq.step (kk.trp hp) r e
end
end Mine
namespace Mine
open PySem
section
variable {prog:Program} {w:World} {mg mb:Str→Option Value} {base:Heap}
noncomputable def gD(prog:Program)(w:World)(A:Around)(s:Shared)(v:Value)(T:String)(b:Bool):Prop :=
 ∀ (Q:Value→Shared→Prop) (E:Value→Shared→Prop),(∀ tk,Q (.bool b) { s with toks:=tk })→wpAny (model prog w) A (call (.builtin "isinstance") [v,.type T]) Q E s
theorem Ho{A:Around}{s:Shared}{av:Addr→Prop}{v:Value}{d:PyData}(r:Rep prog w s.heap av v d) :
  gD prog w A s v "dict" (dU d)∧gD prog w A s v "int" (eF d)∧gD prog w A s v "bool" (eQ d)∧gD prog w A s v "str" (fF d)∧gD prog w A s v "list" (lC d)∧gD prog w A s v "tuple" (dW d):=by
 cases r with
 |none=>exact⟨fun Q E hq=>IsiPair.NoneType_dict (hq _),fun Q E hq=>IsiPair.NoneType_int (hq _),fun Q E hq=>IsiPair.NoneType_bool (hq _),fun Q E hq=>IsiPair.NoneType_str (hq _),fun Q E hq=>IsiPair.NoneType_list (hq _),fun Q E hq=>IsiPair.NoneType_tuple (hq _)⟩
 |bool _=>exact⟨fun Q E hq=>IsiPair.bool_dict (hq _),fun Q E hq=>IsiPair.bool_int (hq _),fun Q E hq=>IsiPair.bool_bool (hq _),fun Q E hq=>IsiPair.bool_str (hq _),fun Q E hq=>IsiPair.bool_list (hq _),fun Q E hq=>IsiPair.bool_tuple (hq _)⟩
 |int _ _=>exact⟨fun Q E hq=>IsiPair.int_dict (hq _),fun Q E hq=>IsiPair.int_int (hq _),fun Q E hq=>IsiPair.int_bool (hq _),fun Q E hq=>IsiPair.int_str (hq _),fun Q E hq=>IsiPair.int_list (hq _),fun Q E hq=>IsiPair.int_tuple (hq _)⟩
 |str _ _ _=>exact⟨fun Q E hq=>IsiPair.str_dict (hq _),fun Q E hq=>IsiPair.str_int (hq _),fun Q E hq=>IsiPair.str_bool (hq _),fun Q E hq=>IsiPair.str_str (hq _),fun Q E hq=>IsiPair.str_list (hq _),fun Q E hq=>IsiPair.str_tuple (hq _)⟩
 |list _ h2=>obtain⟨n,e⟩:=h2;exact⟨fun Q E hq=>IsiPair.list_dict e rfl (hq _),fun Q E hq=>IsiPair.list_int e rfl (hq _),fun Q E hq=>IsiPair.list_bool e rfl (hq _),fun Q E hq=>IsiPair.list_str e rfl (hq _),fun Q E hq=>IsiPair.list_list e rfl (hq _),fun Q E hq=>IsiPair.list_tuple e rfl (hq _)⟩
 |tuple _ h2=>obtain⟨n,e⟩:=h2;exact⟨fun Q E hq=>IsiPair.tuple_dict e rfl (hq _),fun Q E hq=>IsiPair.tuple_int e rfl (hq _),fun Q E hq=>IsiPair.tuple_bool e rfl (hq _),fun Q E hq=>IsiPair.tuple_str e rfl (hq _),fun Q E hq=>IsiPair.tuple_list e rfl (hq _),fun Q E hq=>IsiPair.tuple_tuple e rfl (hq _)⟩
 |dict _ h2=>obtain⟨o,es,ep,e,c,_⟩:=h2;exact⟨fun Q E hq=>IsiPair.dict_dict e c.1 (hq _),fun Q E hq=>IsiPair.dict_int e c.1 (hq _),fun Q E hq=>IsiPair.dict_bool e c.1 (hq _),fun Q E hq=>IsiPair.dict_str e c.1 (hq _),fun Q E hq=>IsiPair.dict_list e c.1 (hq _),fun Q E hq=>IsiPair.dict_tuple e c.1 (hq _)⟩
theorem Kp.mk'{s:Shared}{h':Heap}{tk:Nat}(k:∀ b o,s.heap.get? b=some o→h'.get? b=some o):Kp s { s with heap:=h',toks:=tk }:=⟨h',tk,rfl,k⟩
theorem Kp.mkh{s:Shared}{h':Heap}(k:∀ b o,s.heap.get? b=some o→h'.get? b=some o):Kp s { s with heap:=h' }:=⟨h',s.toks,rfl,k⟩
theorem qC{s s₁ s':Shared}{av:Addr→Prop}{a:Addr}{vs:List Value}{ds:List PyData}(k0:Kp s s₁)(k:Kp s₁ s')(hn:s₁.heap.get? a=none)(hp:s'.heap.PlainList a vs.toArray)(hl:vs.length=ds.length)(hz:vs.length≤sizeLine)
  (h:∀ (i:Nat) (v:Value) (d:PyData),vs[i]?=some v→ds[i]?=some d→Rep prog w s₁.heap av v d):Kp s s'∧aY prog w s s'.heap av (.ref a) (.own (.list ds)):=by
 refine⟨k0.tr k,Own.backp k0 ⟨a,rfl,hn,vs,hp,hl,hz,fun i v d e1 e2=>((h i v d e1 e2).apart hn).keeps k.heap⟩⟩
theorem xA{s s₁ s':Shared}{av:Addr→Prop}{a:Addr}{kvs:List (Str×Value)}{ds:List (PyData×PyData)}(k0:Kp s s₁)(k:Kp s₁ s')(hn:s₁.heap.get? a=none)(hm:(a==sysModules)=false)(hp:s'.heap.DictOf (strKind prog w) a kvs)
  (hz:kvs.length≤sizeLine∧∀ kv∈kvs,kv.1.length≤sizeLine) (hl:ds.map (·.1)=kvs.map (fun kv=>PyData.str kv.1))
  (h:∀ (i:Nat) (kv:Str×Value) (d:PyData×PyData),kvs[i]?=some kv→ds[i]?=some d→Rep prog w s₁.heap av kv.2 d.2):Kp s s'∧aY prog w s s'.heap av (.ref a) (.own (.dict ds)):=by
 refine⟨k0.tr k,Own.backp k0 ⟨a,rfl,hn,kvs,hp,hz,hm,hl,fun i v d e1 e2=>((h i v d e1 e2).apart hn).keeps k.heap⟩⟩
theorem mP{l:List Env}{av:Addr→Prop}{s:Shared}(G:Gnd prog w mg mb base l av s):(s.heap.objs.size==sysModules)=false:=by
 have:sysModules < s.heap.objs.size:=PyProof.Rows.modules_low (G.glo.nolimit.keeps G.stay);exact beq_eq_false_iff_ne.mpr (Nat.ne_of_gt this)
noncomputable def leS(x y:Str):Prop:=¬ (y.cps.toList < x.cps.toList)
theorem xB{x y z:Str}(h:leS x y)(h':leS y z):leS x z:=by
 have a:x.cps.toList≤y.cps.toList:=List.not_lt.mp h;have b:y.cps.toList≤z.cps.toList:=List.not_lt.mp h';exact List.not_lt.mpr (List.le_trans a b)
theorem Hp{x y:Str}(h:leS x y)(h':leS y x):x=y:=by
 have a:x.cps.toList≤y.cps.toList:=List.not_lt.mp h;have b:y.cps.toList≤x.cps.toList:=List.not_lt.mp h';have:=List.le_antisymm a b;cases x;cases y;simp_all [Array.toList_inj]
theorem qD(a:Str):∀ l,(dB a l).Perm (a::l)
 | []=>.refl _
 |b::r=>by
  show(if b.cps.toList < a.cps.toList then b::dB a r else a::b::r).Perm _
  split
  ·exact((qD a r).cons b).trans (.swap a b r)
  ·exact .refl _
theorem qE:∀ l,(bK l).Perm l
 | []=>.refl _
 |a::r=>(qD a _).trans ((qE r).cons a)
theorem xC(a:Str):∀ {l},l.Pairwise leS→(dB a l).Pairwise leS
 | [],_=>List.pairwise_singleton _ _
 |b::r,h=>by
  rw[List.pairwise_cons] at h;show(if b.cps.toList < a.cps.toList then b::dB a r else a::b::r).Pairwise leS
  split
  ·rename_i hlt;rw[List.pairwise_cons];refine⟨fun x hx=>?_,xC a h.2⟩;rcases List.mem_cons.mp ((qD a r).mem_iff.mp hx) with rfl | hx
   ·exact List.not_lt.mpr (List.le_of_lt hlt)
   ·exact h.1 x hx
  ·rename_i hlt;rw[List.pairwise_cons];refine⟨fun x hx=>?_,by rw[List.pairwise_cons];exact h⟩;rcases List.mem_cons.mp hx with rfl | hx
   ·exact hlt
   ·exact xB hlt (h.1 x hx)
theorem xD:∀ l,(bK l).Pairwise leS
 | []=>.nil
 |a::r=>xC a (xD r)
theorem xE:∀ (p:Str) (l:List Str),PyProof.Rows.risingS p l=true→(p::l).Pairwise leS
 |p,[],_=>List.pairwise_singleton _ _
 |p,x::r,h=>by
  unfold PyProof.Rows.risingS at h;simp only[Bool.and_eq_true,Bool.not_eq_true'] at h;have hr:=xE x r h.2;have hpx:leS p x:=by
   have:=PyProof.Rows.lt_meets x p;rw[h.1,decide_eq_false_iff_not] at this;exact this
  rw[List.pairwise_cons];refine⟨fun y hy=>?_,hr⟩;rcases List.mem_cons.mp hy with rfl | hy
  ·exact hpx
  ·exact xB hpx ((List.pairwise_cons.mp hr).1 y hy)
theorem Hq{l:List Str}(h:PyProof.Rows.sortedS l=true):l.Pairwise leS:=by
 cases l with
 |nil=>exact .nil
 |cons x r=>exact xE x r h
theorem Hr{l l':List Str}(h:PyProof.Rows.sortedS l'=true)(p:l'.Perm l):l'=bK l :=
 List.Perm.eq_of_pairwise (le:=leS) (fun _ _ _ _ a b=>Hp a b) (Hq h) (xD l) (p.trans (qE l).symm)
theorem xF:∀ {ss:List Str} {ts:List Tok},ts.length=ss.length→PyProof.Rows.StrsAre (List.zipWith (fun x t=>Value.str x t) ss ts) ss
 | [],[],_=>.nil
 | [],_::_,h=>by simp at h
 |_::_,[],h=>by simp at h
 |s::ss,t::ts,h=>.cons s t (xF (by simpa using h))
theorem Hs{h:Heap}{av:Addr→Prop}:∀ {vs:List Value} {ss:List Str},PyProof.Rows.StrsAre vs ss→(∀ x∈ss,x.length≤sizeLine) →
  vs.length=(ss.map PyData.str).length∧∀ (i:Nat) (v:Value) (d:PyData),vs[i]?=some v→(ss.map PyData.str)[i]?=some d→Rep prog w h av v d
 := by
 intro vs ss r
 induction r with
 |nil=>exact fun _=>⟨rfl,fun i v d e=>nomatch e⟩
 |cons y t r ih =>
  intro hx;obtain⟨h1,h2⟩:=ih fun x hx'=>hx x (List.mem_cons_of_mem _ hx');refine⟨congrArg Nat.succ h1,fun i v d e1 e2=>?_⟩;cases i with
  |zero=>obtain rfl:=si e1;obtain rfl:=si e2;exact .str y t (hx y List.mem_cons_self)
  |succ i=>exact h2 i v d e1 e2
theorem mQ{n:Nat}(h:n≤sizeLine):((n:Nat):Int) < 2 ^ 63:=by
 have:sizeLine=16777216:=sizeLine_eq;lia
abbrev YV(prog:Program)(w:World)(A:Around)(s:Shared)(av:Addr→Prop)(t:Sem Value)(p:P V):Prop :=
 Yd (fun Q E=>wpAny (model prog w) A t Q E s) (fun v s' u=>Kp s s'∧aY prog w s s'.heap av v u) p
theorem Ht{A:Around}{s:Shared}{av:Addr→Prop}{v:Value}{d:PyData}(r:Rep prog w s.heap av v d):YV prog w A s av (call (.builtin "len") [v]) (aU d):=by
 cases d with
 |list l =>
  obtain⟨a,vs,rfl,h1,h2,h3,h4,h5⟩:=r.list_inv;show YV prog w A s av _ (fz (.int l.length));rw[← h3];exact fun Q E hq=>Calls.call_len_list h2.isList (by simpa using mQ h4) (hq _ _ ⟨Kp.tok' s _,.int _ _⟩)
 |tuple l =>
  obtain⟨a,vs,rfl,h1,⟨n,e⟩,h3,h4,h5⟩:=r.tuple_inv;show YV prog w A s av _ (fz (.int l.length));rw[← h3];exact fun Q E hq=>P.len_tuple e (by simpa using mQ h4) (hq _ _ ⟨Kp.tok' s _,.int _ _⟩)
 |str x =>
  obtain⟨t,rfl,hx⟩:=r.str_inv;exact fun Q E hq=>P.len_str (Int.not_le.mpr (mQ hx)) (hq _ _ ⟨Kp.tok' s _,Rep.int _ _⟩)
 |dict m =>
  obtain⟨a,kvs,rfl,h1,h2,h3,h4,h5,h6⟩:=r.dict_inv;have hl:m.length=kvs.length:=by simpa using congrArg List.length h5
  show YV prog w A s av _ (fz (.int m.length));rw[hl];exact fun Q E hq=>call_len_dict h4 h2 (mQ h3.1) (hq _ _ ⟨Kp.tok' s _,.int _ _⟩)
 |_=>exact trivial
theorem Hu{h:Heap}{av:Addr→Prop}:∀ {vs:List Value} {ds:List PyData} {bs:List Bool},vs.length=ds.length→(∀ (i:Nat) (v:Value) (d:PyData),vs[i]?=some v→ds[i]?=some d→Rep prog w h av v d) →
  bools? ds=some bs→vs=bs.map Value.bool
 := by
 intro vs
 induction vs with
 |nil =>
  intro ds bs hl h e;cases ds with
  |nil=>obtain rfl:=si e;rfl
  |cons=>exact nomatch hl
 |cons v vs ih =>
  intro ds bs hl h e;cases ds with
  |nil=>exact nomatch hl
  |cons d ds =>
   cases d with
   |bool b =>
    obtain⟨bs',hb,rfl⟩:=Option.map_eq_some_iff.mp (show(bools? ds).map (b::·)=some bs from e);rw[ih (ds:=ds) (Nat.succ.inj hl) (fun i v d e1 e2=>h (i+1) v d e1 e2) hb,(h 0 v _ rfl rfl).bool_inv];rfl
   |_=>exact ns e
theorem Hv(bs:List Bool):(List.range bs.length).all (fun i=>(bs[i]?).getD true)=bs.all id:=by
 rw[Bool.eq_iff_iff,List.all_eq_true,List.all_eq_true];constructor
 ·intro h b hb;obtain⟨i,hi,rfl⟩:=List.mem_iff_getElem.mp hb;have:=h i (List.mem_range.mpr hi);simpa[List.getElem?_eq_getElem hi] using this
 ·intro h i hi;have hi':=List.mem_range.mp hi;rw[List.getElem?_eq_getElem hi'];exact h _ (List.getElem_mem hi')
theorem Hw{A:Around}{s:Shared}{av:Addr→Prop}{v:Value}{d:PyData}(hh:A.handled=none)(r:Rep prog w s.heap av v d):YV prog w A s av (call (.builtin "all") [v]) (bS d):=by
 cases r with
 | @list a vs ds h1 h2 h3 h4 h5 =>
  show YV prog w A s av _ (((ofO (bools? ds)).bind fun bs=>.ok (bs.all id)).bind fun b=>.ok (.fz (.bool b)));refine ocs (bools? ds) (fun hb=>?_) fun bs hb=>?_
  ·try rewrite[hb]
   exact trivial
  ·try rewrite[hb]
   have hv:=Hu h3 h5 hb;subst hv;intro Q E hq;have hli:s.heap.IsList a (bs.map Value.bool).toArray:=h2.isList;have hne:a≠s.heap.objs.size:=fun e=>by
    obtain⟨o,ho,_⟩:=hli;rw[e,bL] at ho;exact ns ho
   refine call_all_walk (wpAny_pyIter_list hli ⟨s.heap.objs.size,_,_,_,_,_,fun i=>(bs[i]?).getD true,rfl,Walks.list (by exact hh) s.heap.objs.size a hne (bs.map Value.bool).toArray,
    ⟨⟨_,cH _ _ rfl,rfl,rfl⟩,by obtain⟨o,e,r⟩:=hli;exact⟨o,Heap.get?_push_of_some _ e,r⟩⟩,fun i v s Q E hP hQ=>?_,fun h' tk hk=>?_⟩)
   ·have hP:(bs.map Value.bool).toArray[i]?=some v:=hP;rw[List.getElem?_toArray,List.getElem?_map] at hP;refine ocs (bs[i]?) (fun hbi=>?_) fun b hbi=>?_
    ·try rewrite[hbi]
     rw[hbi] at hP;exact ns hP
    ·try rewrite[hbi]
     rw[hbi] at hP;obtain rfl:=si hP;exact wpAny_truthy_bool (by simpa[hbi] using hQ)
   ·have e:(List.range ((bs.map Value.bool).toArray.size)).all (fun i=>(bs[i]?).getD true)=bs.all id:=by simpa using Hv bs
    rw[e];refine hq _ _ ⟨⟨h',tk,rfl,fun b o e=>hk b o (fun hb=>?_) (Heap.get?_push_of_some _ e)⟩,.bool _⟩;rw[List.mem_singleton.mp hb,bL] at e;exact ns e
 |_=>exact trivial
theorem xG{s s':Shared}{av:Addr→Prop}{a:Addr}{out:Array Value}{ss ss':List Str}(k:Kp s s')(hn:s.heap.get? a=none)(he:∃ e,s'.heap.get? a=some (PyProof.Rows.seqObj "list" out e))(hS:PyProof.Rows.StrsAre out.toList ss')(hp:ss'.Perm ss)(hso:PyProof.Rows.sortedS ss'=true)
  (h3:∀ x∈ss,x.length≤sizeLine) (hlt:ss.length < 64):Kp s s'∧aY prog w s s'.heap av (.ref a) (.own (.list ((bK ss).map .str))):=by
 obtain rfl:=Hr hso hp;obtain⟨q1,q2⟩:=Hs (prog:=prog) (w:=w) (h:=s.heap) (av:=av) hS fun x hx=>h3 x (hp.mem_iff.mp hx);obtain⟨e,he⟩:=he;refine qC (vs:=out.toList) (Kp.rfl' s) k hn ⟨e,by simpa using he⟩ q1 ?_ q2;simp only[q1,List.length_map,(qE ss).length_eq];exact Nat.le_trans (Nat.le_of_lt hlt) (by decide)
theorem Hx{kvs:List (Str×Value)}{acc:List Value}(hl:acc.length=kvs.length)(h:∀ (i:Nat) (v:Value),acc[i]?=some v→∃ k x,kvs[i]?=some (k,x)∧(strKind prog w).is k v=true):PyProof.Rows.StrsAre acc (kvs.map (·.1)):=by
 induction kvs generalizing acc with
 |nil=>cases acc with
  |nil=>exact .nil
  |cons=>cases hl
 |cons kv r ih =>
  cases acc with
  |nil=>cases hl
  |cons v acc =>
   obtain⟨k,x,e,hk⟩:=h 0 v rfl;obtain rfl:=si e;obtain⟨t,rfl⟩:=Value.isStrOf_shape hk;exact .cons k t (ih (Nat.succ.inj hl) fun i v e=>h (i+1) v e)
theorem Hy(kvs:List (Str×Value)):strs? (kvs.map fun kv=>PyData.str kv.1)=some (kvs.map (·.1)):=by
 induction kvs with
 |nil=>rfl
 |cons kv r ih =>
  show(strs? (r.map _)).map _=_;simp only[ih];rfl
theorem Hz{A:Around}{s:Shared}{av:Addr→Prop}{v:Value}{d:PyData}(hh:A.handled=none)(r:Rep prog w s.heap av v d):YV prog w A s av (call (.builtin "sorted") [v]) (fG d):=by
 cases d with
 |list l =>
  obtain⟨a,vs,rfl,h1,h2,h3,h4,h5⟩:=r.list_inv;refine Yd.optBind fun ss hs=>Yd.ite fun hlt=>?_;obtain⟨ts,e1,rfl,e3⟩:=fQ h3 h5 hs;intro Q E hq;refine PyProof.Rows.sorted_strs h2.isList (xF e1) (by simpa[e1] using hlt) fun out ss' hS hp hso=>?_;exact hq _ _ (xG (Kp.mkh fun b o e=>PyProof.Rows.sortedAll_old e) (Heap.get?_none_of_le (Nat.le_add_right _ _)) (PyProof.Rows.sortedAll_at s.heap _ out) hS hp hso e3 hlt)
 |dict l =>
  obtain⟨a,kvs,rfl,h1,⟨o,es,ep,hd⟩,h3,h4,h5,h6⟩:=r.dict_inv;show YV prog w A s av _ (f7 (l.map (·.1)));unfold f7;rw[h5,Hy];refine Yd.ite fun hlt=>?_;intro Q E hq;refine Calls.call_function_entry PyProof.Rows.kind_sorted PyProof.Rows.plain_sorted PyProof.Rows.entry_sorted (PyProof.Rows.args_sorted1 _) ?_;unfold Builtin.«sorted»;refine wpAny_bind (m:=checkCount "sorted" 1 1 _) (wpAny_pure ?_);refine wpAny_bind (W.kdu_collect (A:=A.in1) (W.kdl_dict (knd:=strKind prog w) (kvs:=kvs) (ep:=ep) h4) hh ⟨o,es,hd⟩ h3.1 fun h' tk acc hk hacc=>?_);have hl:acc.toList.length=kvs.length:=by rw[Array.length_toList];exact hacc.1
  refine wpAny_bind (wpAny_newList ?_ (by rw[hl];exact h3.1));have hS:=Hx hl fun i v e=>hacc.2 i v (by rw[← Array.getElem?_toList];exact e);have hoL:(h'.push { cls:=.type "list", data:=.seq acc.toList.toArray }).get? h'.objs.size=some (PyProof.Rows.seqObj "list" acc.toList.toArray 0):=Heap.get?_push_size _ rfl;have h64:acc.toList.length < 64:=by rw[hl];simpa using hlt
  refine wpAny_bind (wpAny_holding (wpAny_call_entry PyProof.Rows.slot_list_sort ⟨_,hoL,rfl⟩ PyProof.Rows.entry_list_sort (PyProof.Rows.list_sort_treeK PyProof.Rows.strKind_oneLt hoL hS.keysOf (fun v₁ v₂ rest e=>PyProof.Rows.keyKind_strs (by rw[← e];exact hS)) h64 fun st' hp hs=>⟨_,rfl,?_⟩) (PyProof.Rows.args_list_sort _)));obtain⟨ss',g1,g2,g3⟩:=PyProof.Rows.sorted_out_str hS hp hs;have hold:∀ b o,s.heap.get? b=some o→(PyProof.Rows.sortedHeap (h'.push { cls:=.type "list", data:=.seq acc.toList.toArray }) h'.objs.size acc.toList ((PyProof.Rows.arrOf st').map (·.2))).get? b=some o:=fun b o e=>by
   have e1:=hk b o e;have hlt:=Heap.lt_size e1;rw[PyProof.Rows.sortedHeap_old (Nat.ne_of_lt hlt) (by rw[PyProof.Rows.size_push'];exact Nat.lt_succ_of_lt hlt)];exact Heap.get?_push_of_some _ e1
  have hn:s.heap.get? h'.objs.size=none:=by
   refine ocs (s.heap.get? h'.objs.size) (fun hb=>?_) fun o hb=>?_
   ·try rewrite[hb]
    rfl
   ·try rewrite[hb]
    exact absurd (Heap.lt_size (hk _ _ hb)) (Nat.lt_irrefl _)
  have hz:∀ x∈kvs.map (·.1),x.length≤sizeLine:=fun x hx=>by
   obtain⟨kv,hkv,rfl⟩:=List.mem_map.mp hx;exact h3.2 kv hkv
  have kk:=Kp.mk' (tk:=tk) hold;have at':=PyProof.Rows.sortedHeap_at (out:=(PyProof.Rows.arrOf st').map (·.2)) hoL;generalize PyProof.Rows.sortedHeap (h'.push { cls:=.type "list", data:=.seq acc.toList.toArray }) h'.objs.size acc.toList ((PyProof.Rows.arrOf st').map (·.2))=H at kk at';exact wpAny_pure ⟨_,rfl,hq _ _ (xG kk hn at' g1 g2 g3 hz hlt)⟩
 |_=>exact trivial
theorem H0{A:Around}{s:Shared}{av:Addr→Prop}{v:Value}{d:PyData}(hh:A.handled=none)(r:Rep prog w s.heap av v d):YV prog w A s av (call (.type "list") [v]) (fH d):=by
 cases d with
 |dict l =>
  obtain⟨a,kvs,rfl,h1,⟨o,es,ep,hd⟩,h3,h4,h5,h6⟩:=r.dict_inv;intro Q E hq;refine W.kdl_call (W.kdl_dict (knd:=strKind prog w) (kvs:=kvs) (ep:=ep) h4) hh ⟨o,es,hd⟩ h3.1 fun h' tk acc c' hk he hit=>?_;have hsz:acc.toList.length=kvs.length:=by simpa using hit.1
  refine hq _ _ (qC (vs:=acc.toList) (Kp.rfl' s) (Kp.mk' hk) (bL _) ⟨c',by simpa using he⟩ (by simp only[hsz,h5,List.length_map]) (hsz▸h3.1) fun i v d e1 e2=>?_);obtain⟨k,x,e3,e4⟩:=hit.2 i v (by simpa using e1);obtain⟨t,rfl⟩:=Value.isStrOf_shape e4;simp only[h5,List.getElem?_map,e3] at e2;obtain rfl:=si e2;exact .str k t (h3.2 _ (List.mem_of_getElem? e3))
 |list l =>
  obtain⟨a,vs,rfl,h1,⟨n,h2⟩,h3,h4,h5⟩:=r.list_inv;intro Q E hq;exact call_list_seq a (.inl rfl) h2 rfl rfl (fun h' c' hk he=>hq _ _ (qC (Kp.rfl' s) (Kp.mkh hk) (bL _) ⟨c',he⟩ h3 h4 h5)) (by simpa using h4)
 |_=>exact trivial
theorem H1{A:Around}{s:Shared}{av:Addr→Prop}{v:Value}{d:PyData}(ha:∀ b,av b→∃ o,s.heap.get? b=some o)(r:Rep prog w s.heap av v d):YV prog w A s av (call (.type "tuple") [v]) (cL d):=by
 cases d with
 |list l =>
  obtain⟨a,vs,rfl,h1,h2,h3,h4,h5⟩:=r.list_inv;intro Q E hq;refine call_tuple_list h2.isList (fun h' hk=>?_) (by simpa using h4);exact hq _ _ (pX (s₁:={ s with heap:=h' }) (Kp.mkh hk) (fun b hb=>by obtain⟨o,e⟩:=ha b hb;exact⟨o,hk _ _ e⟩) h3 h4 fun i v d e1 e2=>(h5 i v d e1 e2).keeps hk)
 |_=>exact trivial
theorem H3{h h':Heap}{o:Obj}(hs:Heap.SameBut h.objs.size (h.push o) h'):∀ b o',h.get? b=some o'→h'.get? b=some o':=by
 intro b o' e;have hb:b≠h.objs.size:=fun hh=>by rw[hh,bL] at e;exact ns e
 rw[hs.2 b hb];exact Heap.get?_push_of_some _ e
theorem H4{A:Around}{s:Shared}{av:Addr→Prop}{v:Value}{d:PyData}(r:Rep prog w s.heap av v d):YV prog w A s av (call (.type "int") [v]) (dX d):=by
 cases d with
 |bool b =>
  obtain rfl:=r.bool_inv;exact fun Q E hq=>call_int_bool (hq _ _ ⟨Kp.tok' s _,.int _ _⟩)
 |str x =>
  obtain⟨t,rfl,hx⟩:=r.str_inv;exact Yd.ite fun hl=>Yd.optBind fun i hi Q E hq=>W.KIN.call_text hi hl (hq _ _ ⟨Kp.tok' s _,.int _ _⟩)
 |_=>exact trivial
theorem H5{A:Around}{s:Shared}{av:Addr→Prop}{v:Value}{d:PyData}(r:Rep prog w s.heap av v d):YV prog w A s av (call (.type "str") [v]) (eR d):=by
 cases d with
 |str x =>
  obtain⟨t,rfl,hx⟩:=r.str_inv;exact fun Q E hq=>P.str_of_str (hq _ _ ⟨Kp.rfl' s,.str x t hx⟩)
 |int i =>
  obtain⟨t,rfl⟩:=r.int_inv;exact Yd.ite fun hl Q E hq=>P.str_of_int hl (hq _ _ ⟨Kp.tok' s _,.str _ _ (int_text_fits hl)⟩)
 |_=>exact trivial
theorem H6{A:Around}{s:Shared}{av:Addr→Prop}{v:Value}{d:PyData}(r:Rep prog w s.heap av v d):YV prog w A s av (call (.builtin "abs") [v]) (oU d):=by
 cases d with
 |int i =>
  obtain⟨t,rfl⟩:=r.int_inv;exact fun Q E hq=>PyProof.Rows.call_abs_int fun u tk=>hq _ _ ⟨Kp.tok' s _,.int _ _⟩
 |_=>exact trivial
end
end Mine
namespace Mine
open PySem
theorem H7:typeLookup (.type "list") "keys" = pure none:=by rw[typeLookup_type,builtinLookup_eq_fast];kernel_rfl
theorem H8:typeLookup (.type "list") "__getattr__" = pure none:=by rw[typeLookup_type,builtinLookup_eq_fast];kernel_rfl
section
variable {prog:Program} {w:World} {A:Around} {E:Value→Shared→Prop} {h:Heap} {g:Array GenState} {d:Drawn} {t:Nat} {os:OsState} {a:Addr} {xs:Array Value} {n:Nat}
theorem H9{tk:Tok}{Q:PySem.Fin→Shared→Prop}(hx:h.get? a=some { cls:=.type "list", data:=.seq xs n })(hh:A.handled=none)
  (hq:∀ h' tk' e,Heap.NewAttrErr h h' e (.ref a) (Str.ofString "keys")→E (.ref e) ⟨h',g,d,tk',os⟩) :
  wpAny (model prog w) A (Builtin.«object.__getattribute__» ⟨[.ref a,.str "keys" tk],[]⟩) Q E ⟨h,g,d,t,os⟩:=by
 have hT:(⟨h,g,d,t,os⟩:Shared).TypeIs (.ref a) "list" := ⟨_,hx,rfl⟩
 have f4:=H7
 repeat (any_goals (first | assumption | wp_step))
 exact wpAny_raiseAttrError hh hq (attrMsg_fits (by decide +kernel) (by decide +kernel))
theorem Ia{tk:Tok}{R:Result→Shared→Prop}(hx:h.get? a=some { cls:=.type "list", data:=.seq xs n })(hh:A.handled=none)
  (hq:∀ h' tk' e,Heap.NewAttrErr h h' e (.ref a) (Str.ofString "keys")→R (.error (.ref e)) ⟨h',g,d,tk',os⟩) :
  codeAny (model prog w) A (.call (.builtin "list.__getattribute__") ⟨[.ref a,.str "keys" tk],[]⟩) R ⟨h,g,d,t,os⟩ :=
 codeAny_call_builtin F.slot_list_getattribute.plain F.entry_list_ga (F.slot_list_getattribute.check _ _ _ _ _ _ _ _ (show(⟨h,g,d,t,os⟩:Shared).TypeIs (.ref a) "list" from ⟨_,hx,rfl⟩) (F.args_list_getattribute_2 _ _) (H9 hx hh hq))
theorem Ib{Q:Option Value→Shared→Prop}(hx:h.get? a=some { cls:=.type "list", data:=.seq xs n })(hh:A.handled=none)
  (hq:∀ h' tk',(∀ b o,h.get? b=some o→h'.get? b=some o)→Q none ⟨h',g,d,tk',os⟩):wpAny (model prog w) A (getAttr? (.ref a) "keys") Q E ⟨h,g,d,t,os⟩:=by
 have hT:(⟨h,g,d,t,os⟩:Shared).TypeIs (.ref a) "list" := ⟨_,hx,rfl⟩
 have f1:=sub_AttributeError;have f2:=F.slot_list_getattribute.lookup;have f3:=F.slot_list_getattribute.bind (.ref a);have f5:=H8;unfold getAttr? getAttrBy? getAttrBy
 repeat (any_goals (first | assumption | wp_step))
 refine Ia hx hh fun h' tk' e hx=>?_;obtain⟨t',u',he⟩:=hx.there
 repeat (any_goals (first | assumption | wp_step))
 exact hq _ _ hx.keeps
end
theorem xH:entryFor table "dict.update.loop" = some Builtin.«dict.update.loop»:=entryFor_of_tree (by kernel_rfl)
theorem mR:plainId "dict.update.loop" = true:=by decide +kernel
section
variable {prog:Program} {w:World}
noncomputable def gE(h:Heap):List Value→List (Str×Value)→Prop
 | [],[]=>True
 |v::vs,kv::kvs=>(∃ a t,v=.ref a∧PlT h a #[.str kv.1 t,kv.2])∧gE h vs kvs
 |_,_=>False
theorem gE.at{h:Heap}:∀ {vs:List Value} {kvs:List (Str×Value)},gE h vs kvs→∀ {i:Nat} {v:Value},vs[i]?=some v→∃ kv a t,kvs[i]?=some kv∧v=.ref a∧PlT h a #[.str kv.1 t,kv.2]
 |_::_,_::_,p,0,_,e=>by obtain rfl:=si e;obtain⟨a,t,h1,h2⟩:=p.1;exact⟨_,a,t,rfl,h1,h2⟩
 |_::_,_::_,p,i+1,_,e=>p.2.at (i:=i) e
 | [],[],_,i,_,e=>by exact ns e
 | [],_::_,p,_,_,_=>p.elim
 |_::_,[],p,_,_,_=>p.elim
theorem gE.len{h:Heap}:∀ {vs:List Value} {kvs:List (Str×Value)},gE h vs kvs→vs.length=kvs.length
 | [],[],_=>rfl
 |_::_,_::_,p=>congrArg Nat.succ p.2.len
 | [],_::_,p=>p.elim
 |_::_,[],p=>p.elim
theorem Ic{A:Around}{R:Result→Shared→Prop}(hh:A.handled=none){I l D:Addr}(hlI:l≠I)(hDI:D≠I)(hDl:D≠l){vs:List Value}{kvs:List (Str×Value)}(hn:kvs.length≤sizeLine){h₀:Heap}(hp:gE h₀ vs kvs)(hD0:h₀.get? D=none)(hI0:h₀.get? I=none) :
  ∀ (k i:Nat) (s:Shared),kvs.length - i=k→i≤kvs.length→s.heap.IsListIter I l i∧s.heap.IsList l vs.toArray→(∀ b o,h₀.get? b=some o→s.heap.get? b=some o)→s.heap.DictOf (strKind prog w) D (merged [] (kvs.take i)) →
   (∀ h' tk,(∀ b o,h₀.get? b=some o→h'.get? b=some o)→h'.DictOf (strKind prog w) D (merged [] kvs)→R (.ok (.ret .none)) { s with heap:=h',toks:=tk }) →
   codeAny (model prog w) A (.builtin "dict.update.loop" ⟨[.ref D,.ref I,rawInt i,.none],[]⟩) R s:=by
 have W:=Walks.list (prog:=prog) (w:=w) (A:=A.in1) hh I l hlI vs.toArray;have hlen:=hp.len;have new:∀ b o,h₀.get? b=some o→b≠D∧b≠I:=fun b o e=>⟨fun x=>by (rw[x,hD0] at e;exact ns e),fun x=>by (rw[x,hI0] at e;exact ns e)⟩
 intro k
 induction k with
 |zero =>
  intro i s hk hi hst hkeep hd hR;have hin:i=kvs.length:=by exact uH hk hi
  subst hin;refine codeAny_builtin xH ?_;rw[Around.under_plainId mR _];show wpAny _ A.in1 (pyNext (.ref I) >>= _) _ _ s;refine wpAny_bind (W.done s _ _ (by rw[List.size_toArray,hlen];exact hst) fun h' tk hk'=>?_);rw[List.take_length] at hd;refine wpAny_bind (wpAny_pure (wpAny_pure (hR h' tk (fun b o e=>hk' b o (fun hb=>(new b o e).2 (List.mem_singleton.mp hb)) (hkeep b o e)) ?_)));obtain⟨o,es,ep,e,r⟩:=hd;exact⟨o,es,ep,hk' _ _ (fun hb=>hDI (List.mem_singleton.mp hb)) e,r⟩
 |succ k ih =>
  intro i s hk hi hst hkeep hd hR;have hlt:i < kvs.length:=by exact uI hk
  refine codeAny_builtin xH ?_;rw[Around.under_plainId mR _];show wpAny _ A.in1 (pyNext (.ref I) >>= _) _ _ s;refine wpAny_bind (W.item i s _ _ (by rw[List.size_toArray,hlen];exact hlt) hst fun v h' tk hP hst' hm=>?_);obtain⟨kv,a,t,e1,rfl,n,e2⟩:=hp.at (by simpa using hP);have hm':∀ b o,h₀.get? b=some o→h'.get? b=some o:=fun b o e=>hm b o (fun hb=>(new b o e).2 (List.mem_singleton.mp hb)) (hkeep b o e);have hd':h'.DictOf (strKind prog w) D (merged [] (kvs.take i)):=by
   obtain⟨o,es,ep,e,r⟩:=hd;exact⟨o,es,ep,hm _ _ (fun hb=>hDI (List.mem_singleton.mp hb)) e,r⟩
  have ha:=hm' _ _ e2;refine wpAny_bind (wpAny_holding (wpAny_bind (wpAny_tryCatch ?_)));unfold Builtin.Dict.pairItems;refine wpAny_bind (wpAny_typeOf (T := "tuple") ⟨_,ha,rfl⟩ ?_);rw[if_pos (by decide)];refine wpAny_bind (wpAny_seqItems ha rfl (wpAny_pure ?_));show wpAny _ _ (holding [Value.str kv.1 t,kv.2] (dictSet D (.str kv.1 t) kv.2)) _ _ _;have hz:(merged ([]:List (Str×Value)) (kvs.take i)).length≤sizeLine:=Nat.le_trans (merged_length_le _ _) (by simp;exact Cu hn);refine wpAny_holding (wpAny_dictSet_pairs (knd:=strKind prog w) (dZ kv.1 t) hd' (fun h'' hd'' hs=>?_) hz);rw[← merged_take_succ [] kvs i kv e1] at hd'';have ks:∀ b o,b≠D→h'.get? b=some o→h''.get? b=some o:=fun b o hb e=>by rw[hs.2 b hb];exact e
  refine wpAny_pure ⟨plainId_quiet mR _,?_⟩;refine ih (i+1) _ (by exact uJ hk) hlt ?_ (fun b o e=>ks b o (new b o e).1 (hm' b o e)) hd'' hR;exact W.frame _ h' _ hst' fun b hb o e=>ks b o (fun x=>by
   subst x;rcases List.mem_cons.mp hb with hb | hb
   ·exact hDI hb
   ·exact hDl (List.mem_singleton.mp hb)) e
end
section
variable {prog:Program} {w:World}
noncomputable def KV(prog:Program)(w:World)(h:Heap)(av:Addr→Prop):List (Str×Value)→List (PyData×PyData)→Prop
 | [],[]=>True
 |kv::r,d::t=>d.1=.str kv.1∧Rep prog w h av kv.2 d.2∧KV prog w h av r t
 |_,_=>False
theorem KV.out{h:Heap}{av:Addr→Prop}:∀ {kvs:List (Str×Value)} {ds:List (PyData×PyData)},KV prog w h av kvs ds →
  ds.map (·.1)=kvs.map (fun kv=>PyData.str kv.1)∧∀ (i:Nat) (kv:Str×Value) (d:PyData×PyData),kvs[i]?=some kv→ds[i]?=some d→Rep prog w h av kv.2 d.2
 | [],[],_=>⟨rfl,fun i kv d e=>by simp at e⟩
 |kv::r,d::t,x=>by
  obtain⟨x1,x2,x3⟩:=x;obtain⟨y1,y2⟩:=KV.out x3;refine⟨by simp[x1,y1],fun i kv' d' e1 e2=>?_⟩;cases i with
  |zero=>simp at e1 e2;subst e1;subst e2;exact x2
  |succ i=>exact y2 i kv' d' (by simpa using e1) (by simpa using e2)
 | [],_::_,x=>x.elim
 |_::_,[],x=>x.elim
theorem KV.of{h:Heap}{av:Addr→Prop}:∀ {kvs:List (Str×Value)} {ds:List (PyData×PyData)},ds.map (·.1)=kvs.map (fun kv=>PyData.str kv.1) →
  (∀ (i:Nat) (kv:Str×Value) (d:PyData×PyData),kvs[i]?=some kv→ds[i]?=some d→Rep prog w h av kv.2 d.2)→KV prog w h av kvs ds
 | [],[],_,_=>trivial
 |kv::r,d::t,e,x=>by
  simp at e;exact⟨e.1,x 0 kv d rfl rfl,KV.of (by simpa using e.2) fun i kv d e1 e2=>x (i+1) kv d (by simpa using e1) (by simpa using e2)⟩
 | [],_::_,e,_=>by simp at e
 |_::_,[],e,_=>by simp at e
theorem KV.mono{h h':Heap}{av av':Addr→Prop}(hk:∀ b o,¬ av b→h.get? b=some o→h'.get? b=some o)(ha:∀ b o,h.get? b=some o→av' b→av b):∀ {kvs:List (Str×Value)} {ds:List (PyData×PyData)},
  KV prog w h av kvs ds→KV prog w h' av' kvs ds
 | [],[],_=>trivial
 |_::_,_::_,x=>⟨x.1,x.2.1.mono hk ha,x.2.2.mono hk ha⟩
 | [],_::_,x=>x.elim
 |_::_,[],x=>x.elim
theorem Id{y:Str}{v0:Value}{r:List (Str×Value)}{k:Str}{v:Value}(hn:(((y,v0)::r).map (·.1)).Nodup):stored ((y,v0)::r) k v=if k=y then (y,v)::r else (y,v0)::stored r k v:=by
 unfold stored
 by_cases h:k=y
 ·subst h;simp only[List.any_cons,decide_true,Bool.true_or,if_true,List.map_cons];congr 1;have hn':k∉r.map (·.1):=(List.nodup_cons.mp (show(k::r.map (·.1)).Nodup from hn)).1;have:∀ kv∈r,(if kv.1=k then (kv.1,v) else kv)=kv:=fun kv hkv=>by
   rw[if_neg];intro e;exact hn' (e▸List.mem_map_of_mem hkv)
  exact(List.map_congr_left this).trans (List.map_id' r)
 ·rw[if_neg h];have hne:¬ y=k:=fun e=>h e.symm;simp only[List.any_cons,hne,decide_false,Bool.false_or,List.map_cons,if_false,List.cons_append]
  split<;>rfl
theorem Ie{kvs:List (Str×Value)}{k:Str}{v:Value}(hn:(kvs.map (·.1)).Nodup):((stored kvs k v).map (·.1)).Nodup:=by
 unfold stored
 split
 ·have:(kvs.map (fun kv=>if kv.1=k then (kv.1,v) else kv)).map (·.1)=kvs.map (·.1):=by
   rw[List.map_map];refine List.map_congr_left fun kv _=>?_;show(if kv.1=k then (kv.1,v) else kv).1=kv.1
   split<;>rfl
  rw[this];exact hn
 ·rename_i h;rw[List.map_append,List.nodup_append];refine⟨hn,by simp,fun a ha b hb hab=>?_⟩;simp at hb;subst hb;subst hab;obtain⟨kv,hkv,rfl⟩:=List.mem_map.mp ha;exact h (List.any_eq_true.mpr ⟨kv,hkv,by simp⟩)
theorem xI{kvs:List (Str×Value)}{k:Str}{v:Value}(hx:∀ kv∈kvs,kv.1.length≤sizeLine)(hk:k.length≤sizeLine):∀ kv∈stored kvs k v,kv.1.length≤sizeLine:=by
 intro kv h;unfold stored at h
 split at h
 ·obtain⟨kv',h',rfl⟩:=List.mem_map.mp h
  split
  ·exact hx kv' h'
  ·exact hx kv' h'
 ·rcases List.mem_append.mp h with h | h
  ·exact hx kv h
  ·simp at h;subst h;exact hk
theorem KV.set{h:Heap}{av:Addr→Prop}{k:Str}{v:Value}{d:PyData}(hv:Rep prog w h av v d):∀ {kvs:List (Str×Value)} {ds:List (PyData×PyData)},(kvs.map (·.1)).Nodup→KV prog w h av kvs ds→KV prog w h av (stored kvs k v) (dJ ds k d)
 | [],[],_,_=>⟨rfl,hv,trivial⟩
 | (y,v0)::r,(dk,d0)::t,hn,x=>by
  obtain⟨x1,x2,x3⟩:=x;have x1:dk=.str y:=x1;subst x1;rw[Id hn];show KV prog w h av _ (if k=y then (.str y,d)::t else (.str y,d0)::dJ t k d)
  split
  ·exact⟨rfl,hv,x3⟩
  ·exact⟨rfl,x2,KV.set hv (List.nodup_cons.mp (show(y::r.map (·.1)).Nodup from hn)).2 x3⟩
 | [],_::_,_,x=>x.elim
 |_::_,[],_,x=>x.elim
noncomputable def PS(prog:Program)(w:World)(h:Heap)(av:Addr→Prop):List (Str×Value)→List (Str×PyData)→Prop
 | [],[]=>True
 |kv::r,p::t=>kv.1=p.1∧kv.1.length≤sizeLine∧Rep prog w h av kv.2 p.2∧PS prog w h av r t
 |_,_=>False
theorem KV.sets{h:Heap}{av:Addr→Prop}:∀ {kvs:List (Str×Value)} {ps:List (Str×PyData)} {acc:List (Str×Value)} {dacc:List (PyData×PyData)},PS prog w h av kvs ps→(acc.map (·.1)).Nodup→KV prog w h av acc dacc→(∀ kv∈acc,kv.1.length≤sizeLine) →
  KV prog w h av (merged acc kvs) (cK ps dacc)∧∀ kv∈merged acc kvs,kv.1.length≤sizeLine
 | [],[],_,_,_,_,x,hz=>⟨x,hz⟩
 | (k,v)::r,(k',d)::t,acc,dacc,y,hn,x,hz=>by
  obtain⟨y1,y2,y3,y4⟩:=y;obtain rfl:k=k':=y1;exact(KV.sets (kvs:=r) (ps:=t) y4 (Ie hn) (KV.set y3 hn x) (xI hz y2):KV prog w h av (merged (stored acc k v) r) (cK t (dJ dacc k d))∧_)
 | [],_::_,_,_,x,_,_,_=>x.elim
 |_::_,[],_,_,x,_,_,_=>x.elim
theorem PS.length{h:Heap}{av:Addr→Prop}:∀ {kvs:List (Str×Value)} {ps:List (Str×PyData)},PS prog w h av kvs ps→kvs.length=ps.length
 | [],[],_=>rfl
 |_::r,_::t,x=>congrArg (·+1) (PS.length (kvs:=r) (ps:=t) x.2.2.2)
 | [],_::_,x=>x.elim
 |_::_,[],x=>x.elim
theorem xJ{s s₁ s':Shared}{av:Addr→Prop}{a:Addr}{kvs:List (Str×Value)}{ps:List (Str×PyData)}(k0:Kp s s₁)(k:Kp s₁ s')(hn:s₁.heap.get? a=none)(hm:(a==sysModules)=false)(hp:s'.heap.DictOf (strKind prog w) a (merged [] kvs))
  (hl:ps.length≤sizeLine) (x:PS prog w s₁.heap av kvs ps):Kp s s'∧aY prog w s s'.heap av (.ref a) (.own (.dict (cK ps []))):=by
 obtain⟨y1,y2⟩:=KV.sets x (acc:=[]) List.nodup_nil (show KV prog w s₁.heap av [] [] from trivial) (fun x hx=>bT hx);obtain⟨z1,z2⟩:=y1.out;exact xA k0 k hn hm hp ⟨Nat.le_trans (merged_length_le [] kvs) (by rw[x.length];simpa using hl),y2⟩ z1 z2
end
section
variable {prog:Program} {w:World}
theorem xK(r:List Str)(x:Str):(bU (x::r)).length=if r.contains x then (bU r).length else (bU r).length+1:=by
 show(if r.contains x then bU r else x::bU r).length=_
 split<;>rfl
theorem qF:∀ l:List Str,(bU l).length≤l.length
 | []=>Nat.le_refl _
 |a::r=>by
  rw[xK];have:=qF r
  split
  ·exact Nat.le_succ_of_le this
  ·exact Nat.succ_le_succ this
noncomputable def met(ss:List Str)(i:Nat):List Str:=(ss.take i).reverse
theorem xL{ss:List Str}{i:Nat}{x:Str}(h:ss[i]?=some x):met ss (i+1)=x::met ss i:=by
 unfold met;rw[List.take_add_one,h];simp
theorem xM(ss:List Str)(i:Nat):(met ss i).length≤ss.length:=by
 unfold met;simp;exact Cv
theorem Ig{A:Around}{R:Result→Shared→Prop}{I:Addr}{fp wr:List Addr}{ss:List Str}{P:Nat→Value→Prop}{St:Nat→Heap→Prop}(W:Walks prog w A.in1 I fp wr ss.length P St)(S:Addr)(hSf:S∉fp)
  (hval:∀ i v,P i v→∃ x t,ss[i]?=some x∧v=.str x t) (hb:ss.length+1 < scanBound) :
  ∀ (k i:Nat) (s:Shared),ss.length - i=k→i≤ss.length→St i s.heap→s.heap.SetOf (strKind prog w) S (fun k'=>(met ss i).contains k') (bU (met ss i)).length →
   (∀ h' tk,(∀ b o,b∉S::wr→s.heap.get? b=some o→h'.get? b=some o)→h'.SetOf (strKind prog w) S (fun k'=>(met ss ss.length).contains k') (bU (met ss ss.length)).length→R (.ok (.ret .none)) { s with heap:=h',toks:=tk }) →
   codeAny (model prog w) A (.builtin "set.update.loop" ⟨[.ref S,.ref I],[]⟩) R s:=by
 have hSw:S∉wr:=fun h=>hSf (W.sub _ h);intro k
 induction k with
 |zero =>
  intro i s hk hi hst hS hR;have hin:i=ss.length:=by exact uH hk hi
  subst hin;refine codeAny_builtin PyProof.Rows.F.entry_set_update_loop ?_;rw[Around.under_plainId PyProof.Rows.F.plain_set_update_loop _];show wpAny _ A.in1 (pyNext (.ref I) >>= _) _ _ s;refine wpAny_bind (W.done s _ _ hst fun h' tk hm=>?_);refine wpAny_pure (hR h' tk (fun b o hb e=>hm b o (fun h=>hb (List.mem_cons_of_mem _ h)) e) ?_);obtain⟨o,es,ep,t,ho,rest⟩:=hS;exact⟨o,es,ep,t,hm S _ hSw ho,rest⟩
 |succ k ih =>
  intro i s hk hi hst hS hR;have hlt:i < ss.length:=by exact uI hk
  refine codeAny_builtin PyProof.Rows.F.entry_set_update_loop ?_;rw[Around.under_plainId PyProof.Rows.F.plain_set_update_loop _];show wpAny _ A.in1 (pyNext (.ref I) >>= _) _ _ s;refine wpAny_bind (W.item i s _ _ hlt hst fun v h' tk hP hst' hm=>?_);obtain⟨x,t,hx,rfl⟩:=hval i v hP;have hS':h'.SetOf (strKind prog w) S (fun k'=>(met ss i).contains k') (bU (met ss i)).length:=by
   obtain⟨o,es,ep,tb,ho,rest⟩:=hS;exact⟨o,es,ep,tb,hm S _ hSw ho,rest⟩
  show wpAny _ A.in1 (holding [Value.str x t] (setAdd S (.str x t)) >>= _) _ _ _;refine wpAny_bind (wpAny_holding ?_);unfold setAdd;refine wpAny_holding ?_;refine wpAny_bind ((strKind prog w).pyHash (k:=x) (dZ x t) ?_);have hroom:(bU (met ss i)).length+1 < scanBound:=by have:=qF (met ss i);have:=xM ss i;lia
  refine wpAny_setAddHashed_of (knd:=strKind prog w) (s:={ s with heap:=h',toks:=tk+1 }) (dZ x t) rfl hS' hroom fun h'' hsb hS2=>?_;have hSi:h''.SetOf (strKind prog w) S (fun k'=>(met ss (i+1)).contains k') (bU (met ss (i+1))).length :=
   PyProof.Rows.SetOf_congr hS2 (fun k'=>by rw[xL hx,List.contains_cons,Bool.or_comm];congr 1) (by rw[xL hx,xK])
  refine wpAny_pure ⟨plainId_quiet PyProof.Rows.F.plain_set_update_loop _,ih (i+1) _ (by exact uJ hk) hlt (W.frame _ h' _ hst' fun b hb o e=>?_) hSi fun h3 tk3 hk3 hS3=>hR h3 tk3 (fun b o hb e=>hk3 b o hb ?_) hS3⟩
  ·rw[hsb.2 b (fun h:b=S=>hSf (by rw[← h];exact hb))];exact e
  ·rw[hsb.2 b (fun h:b=S=>hb (by rw[h];exact List.mem_cons_self))];exact hm b o (fun h=>hb (List.mem_cons_of_mem _ h)) e
set_option maxHeartbeats 3200000 in
theorem xN{A:Around}{E:Value→Shared→Prop}{s:Shared}{l:Addr}{T:String}{items:Array Value}{nl:Nat}{ss:List Str}{Q:Value→Shared→Prop}{oI:Obj}{St:Addr→Nat→Heap→Prop}(hh:A.handled=none)(hol:s.heap.get? l=some { cls:=.type T,data:=.seq items nl })
  (hsls:isSubtype (.type T) (.type "set")=pure false) (hslf:isSubtype (.type T) (.type "frozenset")=pure false) (hne:(Value.type T==Value.type "dict")=false) (hsz:items.size=ss.length)
  (hit:∀ (A':Around) (s':Shared) (Q:Value→Shared→Prop) (E:Value→Shared→Prop),s'.heap.get? l=some { cls:=.type T,data:=.seq items nl }→Q (.ref s'.heap.objs.size) { s' with heap:=s'.heap.push oI }→wpAny (model prog w) A' (pyIter (.ref l)) Q E s')
  (hW:∀ (A':Around) (I:Addr),A'.handled=none→l≠I→Walks prog w A' I [I,l] [I] items.size (fun i v=>items[i]?=some v) (St I))
  (hst:∀ (h:Heap),h.get? l=some { cls:=.type T,data:=.seq items nl }→St h.objs.size 0 (h.push oI))
  (hval:∀ (i:Nat) (v:Value),items[i]?=some v→∃ x t,ss[i]?=some x∧v=.str x t) (hb:ss.length+1 < scanBound)
  (h:∀ (h':Heap) (tk:Nat),h'.SetOf (strKind prog w) s.heap.objs.size (fun k'=>(met ss ss.length).contains k') (bU (met ss ss.length)).length →
   (∀ b o,s.heap.get? b=some o→h'.get? b=some o)→Q (.ref s.heap.objs.size) { s with heap:=h',toks:=tk }) :
  wpAny (model prog w) A (call (.type "set") [.ref l]) Q E s:=by
 obtain⟨c,tl,hmro⟩:=F.called_set.mro;have hmade:=F.called_set.made;have hsub:=F.called_set.sub;refine wpAny_call (codeAny_of_tree ?_);show wpAny _ _ (callAny (.type "set") _) _ _ _;refine wpAny_pure ⟨Code.quiet_builtin _ (by decide +kernel),codeAny_builtin F.entry_type_call ?_⟩;rw[Around.under_plain (weight_type_call_type "set" [.ref l] []) rfl];have h1:=F.called_set.notType;have h2:=F.called_set.canCreate;have hct:=F.typeCall_set_1 (.ref l)
 repeat (any_goals (first | assumption | wp_step))
 refine codeAny_mono (code_set_new_1 (.ref l) (E:=E) (Q₁:=fun obj s₁=>∃ led:Bool,obj=.ref s.heap.objs.size∧s₁={ s with heap:=s.heap.push { cls:=.type "set", dict:=none,data:=.set #[] 0 (.fresh 0 0 led) } }) fun led=>⟨led,rfl,rfl⟩) fun r s₁ hr=>?_;cases r with
 |error e=>exact hr
 |ok fl =>
  cases fl with
  |ret obj =>
   obtain⟨led,rfl,rfl⟩:=hr;have hS:(s.heap.push { cls:=.type "set", dict:=none,data:=.set #[] 0 (.fresh 0 0 led) }).get? s.heap.objs.size=some { cls:=.type "set", dict:=none,data:=.set #[] 0 (.fresh 0 0 led) }:=Heap.get?_push_size _ rfl;have hT:Shared.TypeIs { s with heap:=s.heap.push { cls:=.type "set", dict:=none,data:=.set #[] 0 (.fresh 0 0 led) } } (.ref s.heap.objs.size) "set" := ⟨_,hS,rfl⟩
   have hli:=F.called_set.init.lookup;have hbi:=F.called_set.init.bind (.ref s.heap.objs.size)
   repeat (any_goals (first | assumption | wp_step))
   refine codeAny_mono (codeAny_call_builtin (R:=wants (fun r s₂=>r=.none∧∃ h' tk,s₂={ s with heap:=h',toks:=tk } ∧
     h'.SetOf (strKind prog w) s.heap.objs.size (fun k'=>(met ss ss.length).contains k') (bU (met ss ss.length)).length ∧
     (∀ b o,s.heap.get? b=some o→h'.get? b=some o)) E) F.called_set.init.plain F.entry_set_init (check_set_init_1 hT ?_)) fun r₂ s₂ hr₂=>?_
   ·have hol':(s.heap.push { cls:=.type "set", dict:=none,data:=.set #[] 0 (.fresh 0 0 led) }).get? l=some { cls:=.type T,data:=.seq items nl }:=Heap.get?_push_of_some _ hol;unfold Builtin.«set.__init__» noKeywords Builtin.Frozenset.updateFrom;generalize hPI:pyIter=PI
    wp_walk
    subst hPI;refine hit _ _ _ _ hol' ?_;refine wpAny_bind (wpAny_runValue ?_);have hlS:l < s.heap.objs.size:=Heap.lt_size hol;have hneI:l≠(s.heap.push { cls:=.type "set", dict:=none,data:=.set #[] 0 (.fresh 0 0 led) }).objs.size:=by
     rw[Heap.size_push];exact Nat.ne_of_lt (Nat.lt_succ_of_lt hlS)
    have hSf:s.heap.objs.size∉[(s.heap.push { cls:=.type "set", dict:=none,data:=.set #[] 0 (.fresh 0 0 led) }).objs.size,l]:=by
     rw[Heap.size_push];simp only[List.mem_cons,List.mem_singleton,List.not_mem_nil,or_false,not_or];exact⟨Nat.ne_of_lt (Nat.lt_succ_self _),Nat.ne_of_gt hlS⟩
    refine Ig (hsz▸hW _ _ (by simp[hh]) hneI) s.heap.objs.size hSf hval hb ss.length 0 _ rfl (Nat.zero_le _) (hst _ hol') ?hS0 fun h' tk' hk hS'=>?hR
    case hS0 =>
     exact PyProof.Rows.SetOf_congr ((PyProof.Rows.setObjOf_fresh (knd:=strKind prog w) led).setOf (Heap.get?_push_of_some _ hS) (by unfold scanBound;exact Cw)) (fun _=>rfl) rfl
    case hR =>
     show wpAny _ _ _ _ _ _;refine wpAny_pure ?_;show wpAny _ _ (ret Value.none) _ _ _;refine wpAny_pure ⟨rfl,h',tk',rfl,hS',fun b o e=>?_⟩;have hb:=Heap.lt_size e;refine hk b o ?_ (Heap.get?_push_of_some _ (Heap.get?_push_of_some _ e));rw[Heap.size_push];intro hm;rcases List.mem_cons.mp hm with hm | hm
     ·exact absurd hb (by rw[hm];exact Nat.lt_irrefl _)
     ·exact absurd hb (by rw[List.mem_singleton.mp hm];exact Nat.not_lt.mpr (Nat.le_succ _))
   ·cases r₂ with
    |error e=>exact hr₂
    |ok fl₂ =>
     cases fl₂ with
     |ret r =>
      obtain⟨rfl,h',tk,rfl,hS',hk'⟩:=hr₂
      repeat (any_goals (first | assumption | wp_step))
      exact h _ _ hS' hk'
     |_=>exact hr₂.elim
  |_=>exact hr.elim
end
section
variable {prog:Program} {w:World} {mg mb:Str→Option Value} {base:Heap}
theorem Ih{d:PyData}{p:PyData×PyData}(e:two d=some p):d=.tuple [p.1,p.2]:=by
 cases d with
 |tuple ds =>
  rcases ds with _ | ⟨a,_ | ⟨b,_ | ⟨c,r⟩⟩⟩
  ·exact ns e
  ·exact ns e
  ·obtain rfl:=si e;rfl
  ·exact ns e
 |_=>exact ns e
theorem Ii{α:Type}{l:List α}(h:l.length=2):∃ x y,l=[x,y]:=by
 rcases l with _ | ⟨a,_ | ⟨b,_ | ⟨c,r⟩⟩⟩
 ·cases h
 ·cases h
 ·exact⟨a,b,rfl⟩
 ·cases h
theorem Rep.two{h:Heap}{av:Addr→Prop}{v:Value}{d:PyData}{p:PyData×PyData}(r:Rep prog w h av v d)(e:two d=some p):∃ a x y,v=.ref a∧PlT h a #[x,y]∧Rep prog w h av x p.1∧Rep prog w h av y p.2:=by
 rw[Ih e] at r;obtain⟨a,vs,rfl,h1,h2,h3,h4,h5⟩:=r.tuple_inv;obtain⟨x,y,rfl⟩:=Ii h3;exact⟨a,x,y,rfl,h2,h5 0 _ _ rfl rfl,h5 1 _ _ rfl rfl⟩
theorem Ij{h:Heap}{av:Addr→Prop}:∀ {vs:List Value} {ds:List PyData} {ps:List (PyData×PyData)} {qs:List (Str×PyData)},vs.length=ds.length→(∀ (i:Nat) (v:Value) (d:PyData),vs[i]?=some v→ds[i]?=some d→Rep prog w h av v d) →
  twos? ds=some ps→keys? ps=some qs→∃ kvs,gE h vs kvs∧PS prog w h av kvs qs:=by
 intro vs
 induction vs with
 |nil =>
  intro ds ps qs hl hr e1 e2;cases ds with
  |nil=>obtain rfl:=si e1;obtain rfl:=si e2;exact⟨[],trivial,trivial⟩
  |cons=>exact nomatch hl
 |cons v vs ih =>
  intro ds ps qs hl hr e1 e2;cases ds with
  |nil=>exact nomatch hl
  |cons d ds =>
   replace e1:((two d).bind fun p=>(twos? ds).map (p::·))=some ps:=e1;refine ocs (two d) (fun hp=>?_) fun p hp=>?_
   ·rw[hp] at e1;exact ns e1
   ·rw[hp] at e1;obtain⟨ps',e1',rfl⟩:=Option.map_eq_some_iff.mp (show(twos? ds).map (p::·)=some ps from e1);obtain⟨a,x,y,rfl,g1,g2,g3⟩:=(hr 0 v d rfl rfl).two hp;obtain⟨p1,p2⟩:=p;cases p1 with
    |str k =>
     obtain⟨qs',e2',rfl⟩:=Option.map_eq_some_iff.mp (show(keys? ps').map ((k,p2)::·)=some qs from e2);obtain⟨t,hx,hk⟩:=(show Rep prog w h av x (.str k) from g2).str_inv;subst hx;obtain⟨kvs,z1,z2⟩:=ih (ds:=ds) (Nat.succ.inj hl) (fun i v d e1 e2=>hr (i+1) v d e1 e2) e1' e2';exact⟨(k,y)::kvs,⟨⟨a,t,rfl,g1⟩,z1⟩,rfl,hk,g3,z2⟩
    |_=>exact ns e2
theorem xO{ss:List Str}{ts:List Tok}(e1:ts.length=ss.length){i:Nat}{v:Value}(e:(List.zipWith (fun x t=>Value.str x t) ss ts)[i]?=some v):∃ x t,ss[i]?=some x∧v=.str x t:=by
 rw[List.getElem?_zipWith] at e;cases hs:ss[i]? with
 |none=>rw[hs] at e;exact ns e
 |some x =>
  cases ht:ts[i]? with
  |none=>rw[hs,ht] at e;exact ns e
  |some t=>rw[hs,ht] at e;obtain rfl:=si e;exact⟨x,t,rfl,rfl⟩
theorem Ik{l:List Env}{A:Around}{s:Shared}{av:Addr→Prop}{v:Value}{d:PyData}(hh:A.handled=none)(G:Gnd prog w mg mb base l av s)(r:Rep prog w s.heap av v d):YV prog w A s av (call (.type "dict") [v]) (b8 d):=by
 cases d with
 |dict m =>
  obtain⟨a,kvs,rfl,h1,h2,h3,h4,h5,h6⟩:=r.dict_inv;intro Q E hq;exact kt_call_dict (knd:=strKind prog w) h4 h2 h3.1 fun h' hd hs=>hq _ _ (xA (Kp.rfl' s) (Kp.mkh (H3 hs)) (bL _) (mP G) hd h3 h5 h6)
 |list m =>
  obtain⟨a,vs,rfl,h1,⟨nn,h2⟩,h3,h4,h5⟩:=r.list_inv;refine Yd.optBind fun ps hps=>Yd.optBind fun qs hqs=>Yd.ite fun hlt=>?_;obtain⟨kvs,g1,g2⟩:=Ij h3 h5 hps hqs;have hz:kvs.length≤sizeLine:=by rw[g2.length];exact Nat.le_trans (Nat.le_of_lt hlt) (by decide)
  intro Q E hq;refine callType_codes (Q₁:=fun obj s₁=>obj=.ref s.heap.objs.size∧s₁={ s with heap:=s.heap.push { cls:=.type "dict", data:=.dict #[] } }) F.kt_called_dict (F.kt_typeCall_dict_1 _) F.entry_dict_init (kt_code_dict_new _ ⟨rfl,rfl⟩) ?_
  rintro obj s₁ ⟨rfl,rfl⟩
  have hnew:(s.heap.push { cls:=.type "dict", data:=.dict #[] }).DictOf (strKind prog w) s.heap.objs.size []:=Heap.DictOf.new s.heap;have h2':(s.heap.push { cls:=.type "dict", data:=.dict #[] }).get? a=some _:=Heap.get?_push_of_some _ h2;refine⟨hnew.typeIs,F.args_dict_init_2 _ _,?_⟩;unfold Builtin.«dict.__init__»;refine wpAny_bind ?_;unfold Builtin.Dict.selfAndRest;refine wpAny_bind (wpAny_notOrdered_dict hnew.typeIs ?_);show wpAny _ _ (pure (s.heap.objs.size,[Value.ref a])) _ _ _;refine wpAny_pure ?_;show wpAny _ _ (Builtin.Dict.updateFrom "dict.__init__" s.heap.objs.size (.ref a) [] .none) _ _ _;unfold Builtin.Dict.updateFrom;refine wpAny_bind (wpAny_typeOf (T := "list") ⟨_,h2',rfl⟩ ?_);rw[if_pos (by decide)];refine wpAny_bind (Ib h2' hh fun h' tk hk=>?_);rw[if_pos (show(none:Option Value).isNone=true from rfl)];refine wpAny_bind (wpAny_rule ?_);have hD:=hnew.keep hk;have h2'':=hk _ _ h2';refine wpAny_bind (wpAny_pyIter_list ⟨_,h2'',rfl,nn,rfl⟩ (wpAny_pure ⟨plainId_quiet mR _,?_⟩));have lt1:s.heap.objs.size < h'.objs.size:=(by obtain⟨o,_,_,e,_⟩:=hD;exact Heap.lt_size e)
  have lt2:a < s.heap.objs.size:=Heap.lt_size h2;have old:∀ b o,s.heap.get? b=some o→(h'.push { cls:=.type "list_iterator", data:=.fields #[Value.ref a,rawInt 0] }).get? b=some o:=fun b o e=>Heap.get?_push_of_some _ (hk _ _ (Heap.get?_push_of_some _ e));refine Ic (A:=A.in1) (I:=h'.objs.size) (l:=a) (D:=s.heap.objs.size) (vs:=vs) (kvs:=kvs) hh (Nat.ne_of_lt (Nat.lt_trans lt2 lt1)) (Nat.ne_of_lt lt1) (Nat.ne_of_gt lt2) hz g1 (bL _) (Heap.get?_none_of_le (Nat.le_of_lt lt1)) kvs.length 0 _ rfl (Nat.zero_le _)
   ⟨⟨_,cH _ _ rfl,rfl,rfl⟩,⟨_,Heap.get?_push_of_some _ h2'',rfl,nn,rfl⟩⟩ old (hD.push _) fun h'' tk' hk'' hd''=>⟨rfl,hq _ _ ?_⟩
  exact xJ (Kp.rfl' s) (Kp.mk' hk'') (bL _) (mP G) hd'' (by rw[← g2.length];exact hz) g2
 |_=>exact trivial
theorem Il{A:Around}{s:Shared}{av:Addr→Prop}{v:Value}{d:PyData}(hh:A.handled=none)(hav:∀ b,av b→∃ o,s.heap.get? b=some o)(r:Rep prog w s.heap av v d) :
  Yd (fun Q E=>wpAny (model prog w) A (call (.builtin "dict.items") [v]) (fun x s₁=>wpAny (model prog w) A (call (.type "list") [x]) Q E s₁) E s) (fun v s' u=>Kp s s'∧aY prog w s s'.heap av v u) (eG d):=by
 cases d with
 |dict m =>
  obtain⟨a,kvs,rfl,h1,h2,h3,h4,h5,h6⟩:=r.dict_inv;intro Q E hq;refine call_meetsIn F.slot_dict_items h2.typeIs F.entry_dict_items (F.args_dict_items_1 _) (meets_dict_items (strKind prog w) a h4) ⟨⟨kvs,h2⟩,?_⟩;obtain⟨o,es,ep,hd⟩:=h2;have hp:∀ b o,s.heap.get? b=some o→(s.heap.push { cls:=.type "dict_items", data:=.fields #[.ref a] }).get? b=some o:=fun b o e=>Heap.get?_push_of_some _ e;have fr:∀ {x:Addr},s.heap.objs.size < x→s.heap.get? x=none:=fun hx=>Heap.get?_none_of_le (Nat.le_of_lt hx);have hlen:m.length=kvs.length:=by simpa using congrArg List.length h5
  refine W.kdx_call (knd:=strKind prog w) (kvs:=kvs) (ep:=ep) hh ⟨_,cH _ _ rfl,rfl,rfl⟩ ⟨o,es,hp _ _ hd.1,hd.2⟩ h3.1 fun h' tk acc c as hk hl' hlas hG hacc=>?_;have hk':∀ b o,s.heap.get? b=some o→h'.get? b=some o:=fun b o e=>hk _ _ (hp _ _ e);have hlt:s.heap.objs.size < (s.heap.push { cls:=.type "dict_items", data:=.fields #[.ref a] }).objs.size:=by rw[Heap.size_push];exact Nat.lt_succ_self _
  have hn:s.heap.get? (s.heap.push { cls:=.type "dict_items", data:=.fields #[.ref a] }).objs.size=none:=fr hlt;refine hq _ _ ⟨Kp.mk' hk',⟨_,rfl,hn,acc.toList,⟨c,by simpa using hl'⟩,by rw[hacc,List.length_map,List.length_map,hlas,hlen],by rw[hacc,List.length_map,hlas];exact h3.1,fun i v d e1 e2=>?_⟩⟩;rw[hacc,List.getElem?_map] at e1;obtain⟨ta,e1',rfl⟩:=Option.map_eq_some_iff.mp e1;rw[List.getElem?_map] at e2;obtain⟨p,e2',rfl⟩:=Option.map_eq_some_iff.mp e2;clear e1 e2;obtain⟨key,k,x,e3,e4,e5⟩:=hG.pairs i ta e1';obtain⟨t,rfl⟩:=Value.isStrOf_shape e4;have hp1:p.1=.str k:=by
   have:=congrArg (fun l=>l[i]?) h5;simp only[List.getElem?_map,e2',e3,Option.map_some] at this;exact Option.some.inj this
  have hgt:(s.heap.push { cls:=.type "dict_items", data:=.fields #[.ref a] }).objs.size < ta:=hG.above ta (List.mem_of_getElem? e1');have hta:s.heap.get? ta=none:=fr (Nat.lt_trans hlt hgt);have rx:Rep prog w h' (fun b=>av b∨b=(s.heap.push { cls:=.type "dict_items", data:=.fields #[.ref a] }).objs.size) x p.2:=((h6 i _ _ e3 e2').apart hn).keeps hk';refine .tuple (fun hx=>?_) ⟨0,by simpa using e5⟩ rfl (by rw[sizeLine_eq];exact Nat.le_of_ble_eq_true rfl) fun j v d f1 f2=>?_
  ·rcases hx with hx | hx
   ·obtain⟨o,e⟩:=hav _ hx;rw[hta] at e;exact ns e
   ·exact absurd hgt (by rw[hx];exact Nat.lt_irrefl _)
  ·match j,f1,f2 with
   |0,f1,f2=>obtain rfl:=si f1;obtain rfl:=si f2;rw[hp1];exact .str k t (h3.2 _ (List.mem_of_getElem? e3))
   |1,f1,f2=>obtain rfl:=si f1;obtain rfl:=si f2;exact rx
 |_=>exact trivial
theorem Im:isSubtype (.type "tuple") (.type "set")=pure false:=by rw[isSubtype_type];kernel_rfl
theorem Io:isSubtype (.type "tuple") (.type "frozenset")=pure false:=by rw[isSubtype_type];kernel_rfl
theorem Ip{A:Around}{s:Shared}{av:Addr→Prop}{v:Value}{d:PyData}(hh:A.handled=none)(r:Rep prog w s.heap av v d) :
  Yd (fun Q E=>wpAny (model prog w) A (call (.type "set") [v]) (fun x s₁=>wpAny (model prog w) A (call (.builtin "len") [x]) Q E s₁) E s) (fun v s' u=>Kp s s'∧aY prog w s s'.heap av v u) (dL d):=by
 have key:∀ {ss:List Str} {Q:Value→Shared→Prop} {E:Value→Shared→Prop} (_:ss.length < 64),(∀ v s',Kp s s'∧aY prog w s s'.heap av v (.fz (.int (bU ss.reverse).length))→Q v s')→∀ (h':Heap) (tk:Nat),h'.SetOf (strKind prog w) s.heap.objs.size (fun k'=>(met ss ss.length).contains k') (bU (met ss ss.length)).length →
   (∀ b o,s.heap.get? b=some o→h'.get? b=some o)→wpAny (model prog w) A (call (.builtin "len") [.ref s.heap.objs.size]) Q E { s with heap:=h',toks:=tk }:=by
  intro ss Q E hlt hq h' tk hS hk;obtain⟨o,es,ep,t,ho,hex,hd,hel,hmem,hb,hf,hn⟩:=hS;have hz:(es.size:Int) < 2 ^ 63:=by
   have:=qF (met ss ss.length);have:=xM ss ss.length;lia
  refine call_len_set ho hex hd hf hz (hq _ _ ⟨Kp.mk' hk,?_⟩);rw[hn];unfold met;rw[List.take_length];exact .int _ _
 cases d with
 |list m =>
  obtain⟨a,vs,rfl,h1,⟨nn,h2⟩,h3,h4,h5⟩:=r.list_inv;refine Yd.optBind fun ss hs=>Yd.ite fun hlt=>?_;obtain⟨ts,e1,rfl,e3⟩:=fQ h3 h5 hs;intro Q E hq;refine xN (T := "list") (ss:=ss) hh h2 F.sub_list_set F.sub_list_frozenset rfl (by simp[e1]) (fun A' s' Q E e hq=>wpAny_pyIter_list ⟨_,e,rfl,_,rfl⟩ hq) (fun A' I hA' hne=>Walks.list hA' I a hne _) (fun h e=>⟨⟨_,cH _ _ rfl,rfl,rfl⟩,⟨_,Heap.get?_push_of_some _ e,rfl,_,rfl⟩⟩) (fun i v e=>?_) (by unfold scanBound;exact uK hlt) (key hlt hq);exact xO e1 (by simpa using e)
 |tuple m =>
  obtain⟨a,vs,rfl,h1,⟨nn,h2⟩,h3,h4,h5⟩:=r.tuple_inv;refine Yd.optBind fun ss hs=>Yd.ite fun hlt=>?_;obtain⟨ts,e1,rfl,e3⟩:=fQ h3 h5 hs;intro Q E hq;refine xN (T := "tuple") (ss:=ss) hh h2 Im Io rfl (by simp[e1]) (fun A' s' Q E e hq=>wpAny_pyIter_tuple ⟨_,e,rfl,_,rfl⟩ hq) (fun A' I hA' hne=>Walks.tuple hA' I a hne _) (fun h e=>⟨⟨_,cH _ _ rfl,rfl,rfl⟩,⟨_,Heap.get?_push_of_some _ e,rfl,_,rfl⟩⟩) (fun i v e=>?_) (by unfold scanBound;exact uK hlt) (key hlt hq);exact xO e1 (by simpa using e)
 |_=>exact trivial
end
end Mine
namespace Mine
open PySem
section
variable {prog:Program} {w:World}
theorem xP{h:Heap}:∀ {vs:List Value} {ds:List PyData},vs.length=ds.length→(∀ (i:Nat) (v:Value) (d:PyData),vs[i]?=some v→ds[i]?=some d→∃ as,Reads h v d as)→∃ as,ReadsAll h vs ds as:=by
 intro vs
 induction vs with
 |nil =>
  intro ds e _;cases ds with
  |nil=>exact⟨[],.nil⟩
  |cons=>exact nomatch e
 |cons v vs ih =>
  intro ds e h;cases ds with
  |nil=>exact nomatch e
  |cons d ds =>
   obtain⟨as,h1⟩:=h 0 v d rfl rfl;obtain⟨bs,h3⟩:=ih (ds:=ds) (Nat.succ.inj e) fun i v d e1 e2=>h (i+1) v d e1 e2;exact⟨as++bs,.cons h1 h3⟩
structure Easy(k:Nat)(d:PyData):Prop where
 s:d.showable=true
 h:d.hasDict=false
 d:d.depth≤k
structure EasyA(k:Nat)(l:List PyData):Prop where
 s:PyData.showableAll l=true
 h:PyData.hasDictAll l=false
 d:PyData.depthAll l≤k
theorem xQ{k:Nat}{l:List PyData}(h:∀ d∈l,Easy k d):EasyA k l:=by
 induction l with
 |nil=>exact⟨rfl,rfl,Nat.zero_le _⟩
 |cons d l ih =>
  obtain⟨a,b,c⟩:=h d List.mem_cons_self;obtain⟨e,f,g⟩:=ih fun x hx=>h x (List.mem_cons_of_mem _ hx);refine⟨?_,?_,Nat.max_le.mpr ⟨c,g⟩⟩
  ·show(d.showable&&PyData.showableAll l)=true;rw[a,e];rfl
  ·show(d.hasDict||PyData.hasDictAll l)=false;rw[b,f];rfl
theorem Iq{d:PyData}(h:oV d=true):Easy 0 d:=by
 cases d with
 |str x=>exact⟨rfl,rfl,Nat.le_refl 0⟩
 |int i=>exact⟨decide_eq_true (Nat.lt_of_le_of_lt (Nat.log2_le_self _) (Nat.lt_trans (of_decide_eq_true h) (by decide))),rfl,Nat.le_refl 0⟩
 |_=>exact bft h
theorem Ir{d:PyData}(h:oW d=true):Easy 1 d:=by
 cases d with
 |str x=>exact⟨rfl,rfl,Nat.zero_le 1⟩
 |list l=>obtain⟨a,b,c⟩:=xQ fun d hd=>Iq (List.all_eq_true.mp h d hd);exact⟨a,b,Nat.succ_le_succ c⟩
 |_=>exact bft h
theorem Iu{h:Heap}{av:Addr→Prop}{v:Value}{d:PyData}(r:Rep prog w h av v d)(hf:oV d=true):∃ as,Reads h v d as:=by
 cases d with
 |str x=>obtain⟨t,rfl,_⟩:=r.str_inv;exact⟨_,.str x t⟩
 |int i=>obtain⟨t,rfl⟩:=r.int_inv;exact⟨_,.int i t⟩
 |_=>exact bft hf
theorem Iv{h:Heap}{av:Addr→Prop}{v:Value}{d:PyData}(r:Rep prog w h av v d)(hf:oW d=true):∃ as,Reads h v d as:=by
 cases d with
 |str x=>obtain⟨t,rfl,_⟩:=r.str_inv;exact⟨_,.str x t⟩
 |list l =>
  obtain⟨a,vs,rfl,h1,⟨n,e⟩,h3,h4,h5⟩:=r.list_inv;obtain⟨as,ra⟩:=xP h3 fun i v d e1 e2=>Iu (h5 i v d e1 e2) (List.all_eq_true.mp hf d (List.mem_of_getElem? e2));exact⟨_,.list e rfl rfl (by simpa using ra)⟩
 |_=>exact bft hf
theorem Iw{A:Around}{s:Shared}{av:Addr→Prop}{v:Value}{d:PyData}(hg:A.guards=some [])(hu:A.units+70 < cLine)(r:Rep prog w s.heap av v d):YV prog w A s av (call (.builtin "repr") [v]) (u1 d):=by
 cases d with
 |tuple l =>
  refine Yd.ite fun hc=>?_;obtain⟨hf,hz⟩:=hc;obtain⟨a,b,c⟩:=xQ fun d hd=>Ir (List.all_eq_true.mp hf d hd);obtain⟨ad,vs,rfl,h1,⟨n,e⟩,h3,h4,h5⟩:=r.tuple_inv;obtain⟨as,ra⟩:=xP h3 fun i v d e1 e2=>Iv (h5 i v d e1 e2) (List.all_eq_true.mp hf d (List.mem_of_getElem? e2));intro Q E hq;refine repr_of_reads' (d:=.tuple l) (Reads.tuple e rfl rfl (by simpa using ra)) a (PyData.noDict_hsm b) hg (Nat.lt_of_le_of_lt (Nat.add_le_add_left (Nat.le_trans (Nat.succ_le_succ (Nat.succ_le_succ c)) (by decide:3≤70)) _) hu) (fun _ _ e=>e) (fun h' u tk k=>hq _ _ ⟨Kp.mk' k,.str _ _ hz⟩) hz
 |_=>exact trivial
end
end Mine
namespace Mine
open PySem
section
variable {prog:Program} {w:World} {mg mb:Str→Option Value} {base:Heap} {n:Nat} {hd:Bool} {l:List Env} {sc:Scope} {σ:aA}
noncomputable def CA(prog:Program)(w:World)(mg:Str→Option Value)(l:List Env)(av:Addr→Prop)(s:Shared)(v:Value)(u:V):Prop:=bV prog w mg l s.heap av v u∧∀ d,u≠.own d
structure KSound(prog:Program)(w:World)(mg mb:Str→Option Value)(base:Heap)(n:Nat)(C:Ctx):Prop where
 const:C.const=gA prog.main.body
 init:C.init=fun c=>(bE c prog.main.body).map (·.2)
 sub:C.sub=eJ prog.main.body
 has:∀ f,C.has f=true→∃ a b sc,dE f prog.main.body=some (a,b,sc)
 call:∀ f us ad,mg f=some (.ref ad)→C.has f=true→∀ (A:Around) (l:List Env) (s:Shared) (av:Addr→Prop) (vs:List Value),Room n C.hd l A→Gnd prog w mg mb base l av s→eV (CA prog w mg l av) s vs us →
  ∀ {β:Type} {k:V→R β} {fin:R β} {Q:Value→Shared→Prop} {E:Value→Shared→Prop},Fin (C.call f us) k fin→QH prog w l s av k fin Q→EH prog w mg l s av fin E→wpAny (model prog w) A (call (.ref ad) vs) Q E s
theorem mS{M:Model}{A:Around}{f:Value}{env:Env}{es:List Expr}{pos:Pos}{Q:Args→Shared→Prop}{E:Value→Shared→Prop}{s:Shared}(hs:es.any bad=false)
  (h:wpAny M A (spliced (backTo pos (starEach es env))) (fun vs s'=>Q ⟨vs,[]⟩ s') E s):wpAny M A (evalArgs f true (backTo pos (starEach es env)) []) Q E s:=by
 cases es with
 |nil =>
  have e0:backTo pos (starEach [] env)=[]:=rfl;rw[e0] at h ⊢;unfold evalArgs;refine wpAny_bind (wpAny_bind (wpAny_mono h (fun vs s' h'=>?_) fun _ _ x=>x));refine wpAny_pure (wpAny_holding ?_);exact wpAny_bind (wpAny_pure (wpAny_pure h'))
 |cons e r =>
  rw[eK (Bool.or_eq_false_iff.mp hs).1] at h ⊢;exact Calls.evalArgs_plain h
theorem mT{env:Env}{pos:Pos}:∀ {es:List Expr},es.any bad=false→(backTo pos (starEach es env)).any (·.1)=false:=by
 intro v0
 induction v0 with
 |nil =>
  intro _;exact rfl
 |cons e es ih =>
  intro h;obtain⟨h1,h2⟩:=Bool.or_eq_false_iff.mp h;rw[eK h1];show(false||(backTo pos (starEach es env)).any (·.1))=false;rw[ih h2];rfl
theorem Ix{rec:Expr→R V}(hbad:∀ e,bad e=true→rec e=.no)(e:Expr)(h:bad e=true):hJ rec sc σ e=.no:=by
 have h0:=h;unfold hJ jO bB;unfold bad at h;generalize hv:vw e=v at h;cases v with
 |name x=>exact bft h
 |_=>exact hbad e h0
theorem Iy{av:Addr→Prop}{rec:Expr→R V}{e:Expr}(h:aE prog w mg mb base n hd l sc σ e (rec e)):pZ prog w mg mb base n hd l sc σ av (CA prog w mg l av) e (hJ rec sc σ e):=by
 intro A env s hA I β k fin Q E hf hq he;unfold hJ at hf;refine ocs (jO sc σ e) (fun hx=>?_) fun x hx=>?_
 ·try rewrite[hx]
  rw[hx] at hf;exact h A env s av hA I hf (fun v s' u k r e=>hq v s' u k ⟨r.clear I.gnd.avlt,fun d hh=>by cases u<;>cases hh⟩ e) he
 ·try rewrite[hx]
  rw[hx] at hf;obtain⟨y,p,rfl,hl,e⟩:=Hh hx;obtain⟨u,h1,h2⟩:=I.get _ _ hl e;exact fP I hl h1 (hq _ _ (.ex x) (K.rf l s) ⟨h2,fun d hh=>by cases hh⟩ hf.ok)
theorem Iz{C:Ctx}(hK:KSound prog w mg mb base n C){rec:Expr→R V}(hbad:∀ e,bad e=true→rec e=.no){f:Str}{as:List Expr}{p pos:Pos}(hg:isG sc f=true)(hns:as.any bad=false)(hh:C.has f=true)
  (h:∀ e∈as,aE prog w mg mb base n C.hd l sc σ e (rec e)):aE prog w mg mb base n C.hd l sc σ (.Call (.Name f p) as [] pos) (rb (evs (hJ rec sc σ) as) fun vs=>C.call f vs):=by
 intro A env s av hA I β k fin Q E hf hq he;obtain⟨a,b,sc',hd⟩:=hK.has f hh;obtain⟨ad,o,pm,cd,doc,h1,h2,h3,h4⟩:=I.gnd.glo.fn f a b sc' hd;refine wpAny_Call_NameR (mH I hg h1 (Calls.callWith_function (o:=o) (fd:=Calls.docDef f a b sc' pm cd doc) (mS hns (wQ (C:=CA prog w mg l av) (Ix hbad) (fun _ _ _ _ k r=>⟨r.1.k I.gnd.fav k,r.2⟩) hA (fun e m=>Iy (h e m)) I hf.b (fun vs s₁ us k1 r e1=>?_) he))));exact⟨⟨(I.gnd.k k1).stay _ _ h2,h3⟩,hK.call f us ad h1 hh A l s₁ av vs hA (I.gnd.k k1) r ⟨e1,hf.2⟩ (hq.back k1) (he.back k1)⟩
theorem gF{M:Model}{A:Around}{fv:Value}(hf:(∃ id,fv=.builtin id)∨∃ T,fv=.type T){pos:Pos}{t:Sem Value}{Q:Value→Shared→Prop}{E:Value→Shared→Prop}{s:Shared}
  (h:wpAny M A t (fun v s₁=>wpAny M A (call fv [v]) Q E s₁) E s):wpAny M A (callWith pos fv [] [(false,t)] []) Q E s:=by
 rcases hf with ⟨id,rfl⟩ | ⟨T,rfl⟩
 ·exact PySem.callWith_builtin1 h
 ·exact PySem.callWith_type1 h
theorem I0{f:Str}{fv:Value}(hv:hY f=some fv){A:Around}{s:Shared}{av:Addr→Prop}{v:Value}{d:PyData}(hh:pC f=true→A.handled=none)(hg:A.guards=some [])(hu:A.units+70 < cLine)(G:Gnd prog w mg mb base l av s)
  (r:Rep prog w s.heap av v d):YV prog w A s av (call fv [v]) (oX f d) :=
 Yd.ite2 (fun e=>by subst e;obtain rfl:=si hv;exact Ht r) fun _ =>
 Yd.ite2 (fun e=>by subst e;obtain rfl:=si hv;exact Hw (hh rfl) r) fun _ =>
 Yd.ite2 (fun e=>by subst e;obtain rfl:=si hv;exact Hz (hh rfl) r) fun _ =>
 Yd.ite2 (fun e=>by subst e;obtain rfl:=si hv;exact H0 (hh rfl) r) fun _ =>
 Yd.ite2 (fun e=>by subst e;obtain rfl:=si hv;exact H1 G.avlt r) fun _ =>
 Yd.ite2 (fun e=>by subst e;obtain rfl:=si hv;exact Ik (hh rfl) G r) fun _ =>
 Yd.ite2 (fun e=>by subst e;obtain rfl:=si hv;exact H4 r) fun _ =>
 Yd.ite2 (fun e=>by subst e;obtain rfl:=si hv;exact H5 r) fun _ =>
 Yd.ite2 (fun e=>by subst e;obtain rfl:=si hv;exact H6 r) fun _ =>
 Yd.ite2 (fun e=>by subst e;obtain rfl:=si hv;exact Iw hg hu r) fun _=>trivial
theorem I4{f:Str}(h:gX f=true):∃ fv,hY f=some fv∧((∃ id,fv=.builtin id)∨∃ T,fv=.type T):=by
 unfold gX at h;simp only[Bool.or_eq_true,beq_iff_eq] at h;rcases h with ((((((((h | h) | h) | h) | h) | h) | h) | h) | h) | h<;>subst h
 all_goals first
  |exact⟨.builtin _,rfl,.inl ⟨_,rfl⟩⟩
  |exact⟨.type _,rfl,.inr ⟨_,rfl⟩⟩
theorem I5{rec:Expr→R V}(hbad:∀ e,bad e=true→rec e=.no){f:Str}{a:Expr}{p pos:Pos}(hg:isG sc f=true)(hb:gX f=true)(h:aE prog w mg mb base n hd l sc σ a (rec a)) :
  aE prog w mg mb base n hd l sc σ (.Call (.Name f p) [a] [] pos) (fL rec hd f a):=by
 intro A env s av hA I β k fin Q E hf hq he;obtain⟨fv,hv,hfv⟩:=I4 hb;unfold fL at hf;refine bcs (hd&&pC f) (fun hn=>?_) fun hn=>?_
 ·try rewrite[hn]
  rw[hn] at hf;have hf:Fin (rb (rec a) fun v=>ofP (oX f (dOf v))) k fin:=hf;refine PySem.Call_name1 (eK (eL (hbad a) hf.b.ne)) (dY I hg hv (gF hfv (h A env s av hA I hf.b (fun v s₁ u k1 r h1=>?_) he)));exact Yd.fin (I0 hv (fun hne=>hA.handled (by rw[hne,Bool.and_true] at hn;exact hn)) hA.guards (ax0 hA.units) (I.gnd.k k1) (r.rep I.gnd.avlt)) ⟨h1,hf.2⟩ fun v s' u r e=>hq.step k1 r e
 ·try rewrite[hn]
  rw[hn] at hf;exact hf.no.elim
theorem iB{M:Model}{A:Around}{id:String}{env:Env}{as:List Expr}{pos:Pos}{first:List Value}{Q:Value→Shared→Prop}{E:Value→Shared→Prop}{s:Shared}(hs:as.any bad=false)
  (h:wpAny M A (spliced (backTo pos (starEach as env))) (fun vs s₁=>wpAny M A (call (.builtin id) (first++vs)) Q E s₁) E s):wpAny M A (callWith pos (.builtin id) first (backTo pos (starEach as env)) []) Q E s :=
 Calls.callWith_builtin (mT hs) (mS hs h)
theorem qG{u:V}{d:PyData}(h:f9 u=.ok d):u=.fz d:=by
 cases u with
 |fz=>obtain rfl:=pi h;rfl
 |_=>exact pno h
noncomputable def RL(prog:Program)(w:World)(h:Heap)(av:Addr→Prop)(vs:List Value)(ds:List PyData):Prop :=
 vs.length=ds.length∧∀ (i:Nat) (v:Value) (d:PyData),vs[i]?=some v→ds[i]?=some d→Rep prog w h av v d
theorem RL.cons{h:Heap}{av:Addr→Prop}{vs:List Value}{d:PyData}{ds:List PyData}(r:RL prog w h av vs (d::ds)):∃ v vs',vs=v::vs'∧Rep prog w h av v d∧RL prog w h av vs' ds:=by
 cases vs with
 |nil=>cases r.1
 |cons v vs=>exact⟨v,vs,rfl,r.2 0 v d rfl rfl,Nat.succ.inj r.1,fun i v d e1 e2=>r.2 (i+1) v d e1 e2⟩
theorem RL.nil{h:Heap}{av:Addr→Prop}{vs:List Value}(r:RL prog w h av vs []):vs=[]:=List.length_eq_zero_iff.mp r.1
theorem I6{A:Around}{s:Shared}{av:Addr→Prop}{vs:List Value}{us:List V}(hh:A.handled=none)(r:RL prog w s.heap av vs (bJ us)):YV prog w A s av (call (.builtin "min") vs) (lP us):=by
 cases us with
 |nil=>exact trivial
 |cons a us =>
  cases us with
  |nil=>exact trivial
  |cons b us =>
   cases us with
   |cons=>exact trivial
   |nil =>
    obtain⟨v1,vs,rfl,r1,r⟩:=r.cons;obtain⟨v2,vs,rfl,r2,r⟩:=r.cons;obtain rfl:=r.nil;refine Yd.pureBind fun x hx=>Yd.pureBind fun y hy=>?_;cases qG hx;cases qG hy;cases x with
    |int x =>
     cases y with
     |int y =>
      obtain⟨t,rfl⟩:=(show Rep prog w s.heap av v1 (.int x) from r1).int_inv;obtain⟨u,rfl⟩:=(show Rep prog w s.heap av v2 (.int y) from r2).int_inv;refine fun Q E hq=>min_two_ints hh fun h' tk hk=>hq _ _ ⟨Kp.mk' hk,?_⟩;show Rep prog w _ av _ (.int (if y < x then y else x))
      split<;>exact .int _ _
     |_=>exact trivial
    |_=>exact trivial
theorem I7{rec:Expr→R V}(hbad:∀ e,bad e=true→rec e=.no){as:List Expr}{p pos:Pos}(hg:isG sc "min" = true)(hns:as.any bad=false)(hh:hd=false)
  (h:∀ e∈as,aE prog w mg mb base n hd l sc σ e (rec e)):aE prog w mg mb base n hd l sc σ (.Call (.Name "min" p) as [] pos) (rb (evs rec as) fun vs=>ofP (lP vs)):=by
 intro A env s av hA I β k fin Q E hf hq he;refine wpAny_Call_NameR (dY I hg rfl (iB hns (gC hbad hA h I hf.b (fun vs s₁ us k1 r1 r2 e1=>?_) he)));exact Yd.fin (I6 (hA.handled hh) ⟨r1,r2⟩) ⟨e1,hf.2⟩ fun v s' u r e=>hq.step k1 r e
theorem I8{rec:Expr→R V}{a:Expr}{t:Str}{p p' pos:Pos}(hbad:∀ e,bad e=true→rec e=.no)(hg:isG sc "isinstance" = true)
  (ht:isG sc t=true) (h:aE prog w mg mb base n hd l sc σ a (rec a)):aE prog w mg mb base n hd l sc σ (.Call (.Name "isinstance" p) [a,.Name t p'] [] pos) (rb (rec a) fun v=>ofP (lQ t (dOf v))):=by
 intro A env s av hA I β k fin Q E hf hq he;have hb:=eL (hbad a) hf.b.ne;refine wpAny_Call_NameR (dY I hg rfl (iB (by show(bad a||false)=false;rw[hb];rfl) ?_));refine wpAny_items_cons (h A env s av hA I hf.b (fun v s₁ u k1 r h1=>wpAny_items_cons ?_ rfl) he) (eK hb);obtain⟨h1',h2,h3,h4,h5,h6⟩:=Ho (prog:=prog) (w:=w) (A:=A) (r.rep I.gnd.avlt);have fin:∀ {T:String} {b},hY t=some (.type T)→gD prog w A s₁ v T b→Yd (fun Q E=>wpAny (model prog w) A (eval (.Name t p') env) (fun c s₂=>wpAny (model prog w) A (call (.builtin "isinstance") [v,c]) Q E s₂) E s₁) (fun v s' u=>Kp s₁ s'∧aY prog w s₁ s'.heap av v u) (fz (.bool b)) :=
  fun hT hc Q E hq=>dY (I.k k1) ht hT (hc _ _ fun tk=>hq _ _ ⟨Kp.tok' s₁ tk,.bool _⟩)
 have key:Yd (fun Q E=>wpAny (model prog w) A (eval (.Name t p') env) (fun c s₂=>wpAny (model prog w) A (call (.builtin "isinstance") [v,c]) Q E s₂) E s₁) (fun v s' u=>Kp s₁ s'∧aY prog w s₁ s'.heap av v u) (lQ t (dOf u)) :=
  Yd.ite2 (fun e=>fin (e▸rfl) h1') fun _=>Yd.ite2 (fun e=>fin (e▸rfl) h2) fun _=>Yd.ite2 (fun e=>fin (e▸rfl) h3) fun _=>Yd.ite2 (fun e=>fin (e▸rfl) h4) fun _=>Yd.ite2 (fun e=>fin (e▸rfl) h5) fun _=>Yd.ite2 (fun e=>fin (e▸rfl) h6) fun _=>trivial
 exact wpAny_mono (key.fin (Q:=Q) ⟨h1,hf.2⟩ fun v s' u r e=>hq.step k1 r e) (fun c s₂ h₂=>wpAny_items_nil h₂) fun _ _ x=>x
theorem I9{rec:Expr→R V}{as:List Expr}{p p' pos pos':Pos}(hbad:∀ e,bad e=true→rec e=.no)(hg:isG sc "len" = true)(hh:hd=false)(h:∀ e∈as,aE prog w mg mb base n hd l sc σ e (rec e)) :
  aE prog w mg mb base n hd l sc σ (.Call (.Name "len" p) [.Call (.Name "set" p') as [] pos'] [] pos) (vA rec sc as):=by
 intro A env s av hA I β k fin Q E hf hq he;cases as with
 |nil=>exact hf.no.elim
 |cons x r =>
  cases r with
  |cons=>exact hf.no.elim
  |nil =>
   obtain⟨hc,hf⟩:=Fin.ite hf;refine PySem.Call_name1 rfl (dY I hg rfl (gF (.inl ⟨_,rfl⟩) (PySem.Call_name1 (eK (eL (hbad x) hf.b.ne)) (dY I hc rfl (gF (.inr ⟨_,rfl⟩) (h x List.mem_cons_self A env s av hA I hf.b (fun v s₁ u k1 r h1=>?_) he))))));exact Yd.fin (Ip (hA.handled hh) (r.rep I.gnd.avlt)) ⟨h1,hf.2⟩ fun v s' u r e=>hq.step k1 r e
end
end Mine
namespace Mine
open PySem
section
variable {prog:Program} {w:World} {mg mb:Str→Option Value} {base:Heap} {n:Nat} {hd:Bool} {l:List Env} {sc:Scope} {σ:aA}
theorem Rep.getD{h:Heap}{av:Addr→Prop}{ds:List (PyData×PyData)}{kvs:List (Str×Value)}{x:Str}{dv:Value}{dd:PyData}(h5:ds.map (·.1)=kvs.map (fun kv=>PyData.str kv.1))
  (h6:∀ (i:Nat) (kv:Str×Value) (d:PyData×PyData),kvs[i]?=some kv→ds[i]?=some d→Rep prog w h av kv.2 d.2) (hd:Rep prog w h av dv dd):Rep prog w h av ((valueAt kvs x).getD dv) ((bP ds x).getD dd):=by
 rcases mI x h5 with ⟨e1,e2⟩ | ⟨i,v,d,e1,e2,e3,e4⟩
 ·rw[e1,e2];exact hd
 ·rw[e1,e2];exact h6 i _ _ e3 e4
theorem Ja{A:Around}{s:Shared}{av:Addr→Prop}{o:Value}{l:List (PyData×PyData)}{vs:List Value}{k:PyData}{ds:List PyData}(ro:Rep prog w s.heap av o (.dict l))(r:RL prog w s.heap av vs (k::ds)) :
  YV prog w A s av (call (.builtin "dict.get") (o::vs)) (u3 l ds k):=by
 obtain⟨v,vs,rfl,rk,r1⟩:=r.cons;clear r;cases k with
 |str k =>
  obtain⟨t,rfl,hk⟩:=rk.str_inv;obtain⟨a,kvs,rfl,_,h2,h3,h4,h5,h6⟩:=ro.dict_inv;cases ds with
  |nil =>
   obtain rfl:=r1.nil;exact fun Q E hq=>call_meetsIn F.slot_dict_get h2.typeIs F.entry_dict_get (F.args_dict_get_2 _ _) (meets_dict_get (strKind prog w) a (dZ k t) h4) ⟨_,h2.mapOf,hq _ _ ⟨Kp.tok' s _,Rep.getD h5 h6 .none⟩⟩
  |cons d ds =>
   obtain⟨u,vs,rfl,ru,r2⟩:=r1.cons;cases ds with
   |cons=>exact trivial
   |nil =>
    obtain rfl:=r2.nil;exact fun Q E hq=>call_meetsIn F.slot_dict_get h2.typeIs F.entry_dict_get (F.args_dict_get_3 _ _ _) (meets_dict_get_default (strKind prog w) a (dZ k t) h4 u) ⟨_,h2.mapOf,hq _ _ ⟨Kp.tok' s _,Rep.getD h5 h6 ru⟩⟩
 |_=>exact trivial
theorem xR{ss:List Str}{ts:List Tok}(e:ts.length=ss.length):strValues (ss.zip ts)=List.zipWith (fun x t=>Value.str x t) ss ts∧(ss.zip ts).map (·.1)=ss :=
 ⟨by unfold strValues;rw[List.zip,List.map_zipWith],List.map_fst_zip (Nat.le_of_eq e.symm)⟩
theorem Jb{A:Around}{s:Shared}{x:Str}{tt:Tok}{Q:Value→Shared→Prop}{E:Value→Shared→Prop}{D:Addr}{l:List (Str×Tok)}{texts:List Str}(hl:∃ o n,s.heap.get? D=some o∧o.cls=.type "tuple" ∧ o.data=.seq (strValues l).toArray n)(ht:l.map (·.1)=texts)(hok:JoinOk x texts=true)
  (hq:∀ t' k,Q (.str (Txt.join x texts) t') { s with toks:=k }):wpAny (model prog w) A (call (.builtin "str.join") [.str x tt,.ref D]) Q E s:=by
 subst ht;unfold JoinOk at hok;rw[Bool.not_eq_true'] at hok;exact call_meets F.slot_str_join (typeIs_str _ _ _) F.entry_str_join (F.args_str_join_2 _ _) (meets_str_join_tuple x tt D l hok) ⟨hl,post_join l ⟨joinFit_length hok,hq⟩⟩
theorem Jc{A:Around}{s:Shared}{av:Addr→Prop}{o:Value}{x:Str}{vs:List Value}{k:PyData}{ds:List PyData}(ro:Rep prog w s.heap av o (.str x))(r:RL prog w s.heap av vs (k::ds)) :
  YV prog w A s av (call (.builtin "str.join") (o::vs)) (u4 x ds k):=by
 obtain⟨t,rfl,hx⟩:=ro.str_inv;obtain⟨v,vs,rfl,rk,r1⟩:=r.cons;clear r;cases ds with
 |cons=>exact trivial
 |nil =>
  obtain rfl:=r1.nil;cases k with
  |list l =>
   obtain⟨a,vl,rfl,h1,h2,h3,h4,h5⟩:=rk.list_inv;refine Yd.optBind fun ss hs=>Yd.ite fun hok=>?_;obtain⟨ts,e1,rfl,e3⟩:=fQ h3 h5 hs;obtain⟨z1,z2⟩:=xR e1;exact fun Q E hq=>SC.join (l:=ss.zip ts) (by rw[z1];exact h2.isList) z2 hok fun t' k=>hq _ _ ⟨Kp.tok' s _,.str _ _ (joinOk_length hok)⟩
  |tuple l =>
   obtain⟨a,vl,rfl,h1,⟨nn,h2⟩,h3,h4,h5⟩:=rk.tuple_inv;refine Yd.optBind fun ss hs=>Yd.ite fun hok=>?_;obtain⟨ts,e1,rfl,e3⟩:=fQ h3 h5 hs;obtain⟨z1,z2⟩:=xR e1;exact fun Q E hq=>Jb (l:=ss.zip ts) (by rw[z1];exact⟨_,nn,h2,rfl,rfl⟩) z2 hok fun t' k=>hq _ _ ⟨Kp.tok' s _,.str _ _ (joinOk_length hok)⟩
  |_=>exact trivial
theorem xS{s:Shared}{a:Addr}{kvs:List (Str×Value)}(h2:s.heap.DictOf (strKind prog w) a kvs):∀ b,Value.ref a=.ref b→∃ ob,s.heap.get? b=some ob∧ob.dict=none:=by
 intro b hb;cases hb;obtain⟨ob,es,ep,e,c,_⟩:=h2;exact⟨ob,e,c.2.1⟩
theorem Jd{m:Str}{od:PyData}(hm:mOk m od=true){s:Shared}{av:Addr→Prop}{o:Value}(ro:Rep prog w s.heap av o od):∃ T id,PlainAttrs T∧Slot T m id∧typeOf (.builtin id)=pure (.type "method_descriptor") ∧
  s.TypeIs o T∧(∀ a,o=.ref a→∃ ob,s.heap.get? a=some ob∧ob.dict=none) ∧
  ∀ (A:Around) (s':Shared) (vs:List Value) (ds:List PyData),Rep prog w s'.heap av o od→RL prog w s'.heap av vs ds→YV prog w A s' av (call (.builtin id) (o::vs)) (dK od ds):=by
 cases od with
 |dict l =>
  obtain rfl:=of_decide_eq_true hm;obtain⟨a,kvs,rfl,_,h2,_⟩:=ro.dict_inv;refine⟨"dict", "dict.get", F.plainAttrs_dict,F.slot_dict_get,by kernel_rfl,h2.typeIs,xS h2,fun A s' vs ds ro r=>?_⟩;cases ds with
  |nil=>exact trivial
  |cons k ds=>exact Ja ro r
 |str x =>
  obtain rfl:=of_decide_eq_true hm;obtain⟨t,rfl,_⟩:=ro.str_inv;refine⟨"str", "str.join", F.plainAttrs_str,F.slot_str_join,by kernel_rfl,rfl,fun a ha=>by (cases ha),fun A s' vs ds ro r=>?_⟩;cases ds with
  |nil=>exact trivial
  |cons k ds=>exact Jc ro r
 |_=>exact bft hm
theorem xT{o:Expr}(h:lR o=true)(name:Str)(env:Env):attributeBase o name env (eval o env)=eval o env:=by
 cases o with
 |Call f as kws q =>
  cases f with
  |Name=>exact bft h
  |_=>rfl
 |_=>rfl
theorem mU{as:List Expr}(hs:as.any bad=false)(hl:as.length≤3)(pos:Pos)(env:Env):((backTo pos (starEach as env)).all (fun x=>!x.1)&&(backToKw pos (keywordEach [] env)).all (fun x=>x.1.isSome)
   && decide (as.length+([]:List Keyword).length+(if ([]:List Keyword).isEmpty then 0 else 1) < 30))=true:=by
 have h1:=mT (env:=env) (pos:=pos) hs;have h2:(backTo pos (starEach as env)).all (fun x=>!x.1)=true:=by
  rw[List.all_eq_true];intro x hx;have:=List.any_eq_false.mp h1 x hx;simpa using this
 rw[h2];have:(backToKw pos (keywordEach [] env)).all (fun x=>x.1.isSome)=true:=rfl;rw[this];simp;exact Cx hl
theorem Je{rec:Expr→R V}(hbad:∀ e,bad e=true→rec e=.no){o:Expr}{m:Str}{as:List Expr}{ap cp:Pos}(ho:aE prog w mg mb base n hd l sc σ o (rec o))
  (h:∀ e∈as,aE prog w mg mb base n hd l sc σ e (rec e)):aE prog w mg mb base n hd l sc σ (.Call (.Attribute o m ap) as [] cp) (jQ rec o m ap as cp):=by
 intro A env s av hA I β k fin Q E hf hq he;unfold jQ at hf
 by_cases hc:m = "items" ∨ lR o=false∨(ap.endLine==cp.line)=false∨as.any bad=true∨3 < as.length
 ·rw[if_pos hc] at hf;exact hf.no.elim
 rw[if_neg hc] at hf;simp only[not_or,Bool.not_eq_true,Bool.not_eq_false,Nat.not_lt] at hc;obtain⟨_,c2,c3,c4,c5⟩:=hc;refine wpAny_Call_method_lateS (xT c2 m env) (mU c4 c5 cp env) c3 (ho A env s av hA I hf.b (fun ov s₁ u k1 r h1=>?_) he);obtain⟨hm,hf1⟩:=Fin.ite ⟨h1,hf.2⟩;have ro:=r.rep I.gnd.avlt;obtain⟨T,id,t1,t2,t3,q1,q2,t5⟩:=Jd (prog:=prog) (w:=w) hm ro;refine⟨T,id,t1,t2,t3,q1,q2,iB c4 (gC hbad hA h (I.k k1) hf1.b (fun vs s₂ us k2 r1 r2 e2=>?_) (he.back k1))⟩;exact Yd.fin (t5 A s₂ vs _ (ro.k I.gnd.fav k2) ⟨r1,r2⟩) ⟨e2,hf.2⟩ fun v s' u r e=>hq.step (k1.tr k2) r e
theorem Jf{rec:Expr→R V}{o:Expr}{as:List Expr}{p pos ap cp:Pos}(hg:isG sc "list" = true)(hh:hd=false)(h:aE prog w mg mb base n hd l sc σ o (rec o)) :
  aE prog w mg mb base n hd l sc σ (.Call (.Name "list" p) [.Call (.Attribute o "items" ap) as [] cp] [] pos) (vB rec o ap cp as):=by
 intro A env s av hA I β k fin Q E hf hq he;cases as with
 |cons=>exact hf.no.elim
 |nil =>
  obtain⟨hc,hf⟩:=Fin.ite hf;refine PySem.Call_name1 rfl (dY I hg rfl (gF (.inr ⟨_,rfl⟩) (wpAny_Call_method_lateS (xT hc.1 "items" env) (mU rfl (Nat.zero_le _) cp env) hc.2 (h A env s av hA I hf.b (fun ov s₁ u k1 r h1=>?_) he))));have ro:=r.rep I.gnd.avlt;generalize dOf u=d at ro h1;cases d with
  |dict l =>
   obtain⟨a,kvs,rfl,_,h2,_⟩:=ro.dict_inv;exact⟨"dict", "dict.items", F.plainAttrs_dict,F.slot_dict_items,by kernel_rfl,h2.typeIs,xS h2,iB rfl (wpAny_items_nil (Yd.fin (Il (hA.handled hh) (I.gnd.k k1).avlt ro) ⟨h1,hf.2⟩ fun v s' u r e=>hq.step k1 r e))⟩
  |_=>exact(Fin.no ⟨h1,hf.2⟩).elim
theorem Jg{rec:Expr→R V}(hbad:∀ e,bad e=true→rec e=.no){f:Str}{a:Expr}{p pos:Pos}(hg:isG sc f=true)(hb:gX f=true)(h:aE prog w mg mb base n hd l sc σ a (rec a))
  (hsub:∀ g as kws q,a=.Call g as kws q→(∀ x∈as,aE prog w mg mb base n hd l sc σ x (rec x))∧∀ o m ap,g=.Attribute o m ap→aE prog w mg mb base n hd l sc σ o (rec o)) :
  aE prog w mg mb base n hd l sc σ (.Call (.Name f p) [a] [] pos) (pD rec hd sc f a):=by
 have B:=I5 (p:=p) (pos:=pos) hbad hg hb h;unfold pD;cases hv:f8 a with
 |some c =>
  obtain⟨g,as,kws,cp⟩:=c;have ea:a=.Call g as kws cp:=pS hv;obtain⟨s1,s2⟩:=hsub g as kws cp ea;show aE prog w mg mb base n hd l sc σ _ (vE rec hd sc f a as kws cp (vw g));cases hw:vw g with
  |name g' =>
   obtain⟨gp,eg⟩:=cE hw;intro A env s av hA I β k fin Q E hf hq he;replace hf:Fin (if g' = "set" then vC rec hd sc f as kws else fL rec hd f a) k fin:=hf
   by_cases e:g' = "set"
   ·rw[if_pos e] at hf;obtain⟨c,hf1⟩:=Fin.ite hf;clear hf;cases kws with
    |cons=>exact hf1.no.elim
    |nil =>
     obtain⟨rfl,c2⟩:=c;subst e eg ea;exact I9 hbad hg c2 s1 A env s av hA I hf1 hq he
   ·rw[if_neg e] at hf;exact B A env s av hA I hf hq he
  |attr o m ap =>
   have eg:g=_:=cE hw;intro A env s av hA I β k fin Q E hf hq he;replace hf:Fin (if m = "items" then vD rec hd f o ap cp as kws else fL rec hd f a) k fin:=hf
   by_cases e:m = "items"
   ·rw[if_pos e] at hf;obtain⟨c,hf1⟩:=Fin.ite hf;clear hf;cases kws with
    |cons=>exact hf1.no.elim
    |nil =>
     obtain⟨rfl,c2⟩:=c;subst e eg ea;exact Jf hg c2 (s2 o _ ap rfl) A env s av hA I hf1 hq he
   ·rw[if_neg e] at hf;exact B A env s av hA I hf hq he
  |_=>exact B
 |none=>exact B
theorem Jh{rec:Expr→R V}(hbad:∀ e,bad e=true→rec e=.no){as:List Expr}{p pos:Pos}(hg:isG sc "isinstance" = true)(h:∀ e∈as,aE prog w mg mb base n hd l sc σ e (rec e)) :
  aE prog w mg mb base n hd l sc σ (.Call (.Name "isinstance" p) as [] pos) (vG rec sc as):=by
 intro A env s av hA I β k fin Q E hf hq he;cases as with
 |nil=>exact hf.no.elim
 |cons a r =>
  cases r with
  |nil=>exact hf.no.elim
  |cons b r =>
   replace hf:Fin (vF rec sc a r (bB b)) k fin:=hf;refine ocs (bB b) (fun hn=>?_) fun t hn=>?_
   ·try rewrite[hn]
    rw[hn] at hf;exact hf.no.elim
   ·try rewrite[hn]
    rw[hn] at hf;cases r with
    |cons=>exact hf.no.elim
    |nil =>
     obtain⟨ht,hf1⟩:=Fin.ite hf;obtain⟨q,rfl⟩:=cW hn;exact I8 hbad hg ht (h a List.mem_cons_self) A env s av hA I hf1 hq he
theorem Ji{C:Ctx}(hK:KSound prog w mg mb base n C){rec:Expr→R V}(hbad:∀ e,bad e=true→rec e=.no){f:Str}{as:List Expr}{p pos:Pos}
  (h:∀ e∈as,aE prog w mg mb base n C.hd l sc σ e (rec e))
  (hsub:∀ a∈as,∀ g bs kws q,a=.Call g bs kws q→(∀ x∈bs,aE prog w mg mb base n C.hd l sc σ x (rec x))∧∀ o m ap,g=.Attribute o m ap→aE prog w mg mb base n C.hd l sc σ o (rec o)):aE prog w mg mb base n C.hd l sc σ (.Call (.Name f p) as [] pos) (lT rec C sc σ f as):=by
 intro A env s av hA I β k fin Q E hf0 hq he;obtain⟨hg,hf⟩:=Fin.ite hf0;clear hf0
 by_cases e:f = "isinstance"
 ·rw[if_pos e] at hf;subst e;exact Jh hbad hg h A env s av hA I hf hq he
 rw[if_neg e] at hf
 by_cases e:f = "min"
 ·rw[if_pos e] at hf
  by_cases c:as.any bad=true∨C.hd=true
  ·rw[if_pos c] at hf;exact hf.no.elim
  ·rw[if_neg c] at hf;simp only[not_or,Bool.not_eq_true] at c;subst e;exact I7 hbad hg c.1 c.2 h A env s av hA I hf hq he
 rw[if_neg e] at hf
 by_cases hb:gX f=true
 ·rw[if_pos hb] at hf;cases as with
  |nil=>exact hf.no.elim
  |cons a r =>
   cases r with
   |cons=>exact hf.no.elim
   |nil=>exact Jg hbad hg hb (h a List.mem_cons_self) (hsub a List.mem_cons_self) A env s av hA I hf hq he
 rw[if_neg hb] at hf
 by_cases c:as.any bad=true∨C.has f=false
 ·rw[if_pos c] at hf;exact hf.no.elim
 ·rw[if_neg c] at hf;simp only[not_or,Bool.not_eq_true,Bool.not_eq_false] at c;exact Iz hK hbad hg c.1 c.2 h A env s av hA I hf hq he
end
end Mine
namespace Mine
open PySem
section
variable {prog:Program} {w:World} {mg mb:Str→Option Value} {base:Heap} {n:Nat} {hd:Bool} {l:List Env} {sc:Scope} {σ:aA}
noncomputable def PR(prog:Program)(w:World)(h:Heap)(av:Addr→Prop):List (Value×Value)→List (PyData×PyData)→Prop
 | [],[]=>True
 |kv::r,d::t=>Rep prog w h av kv.1 d.1∧Rep prog w h av kv.2 d.2∧PR prog w h av r t
 |_,_=>False
noncomputable def mV(env:Env)(pos:Pos):List (Option Expr)→List Expr→List (Sem Value×Sem Value)
 |some k::ks,e::es=>(eval k env,(do let x ← eval e env;standAt pos;pure x))::mV env pos ks es
 |_,_=>[]
theorem xU(env:Env)(pos:Pos):∀ {ks:List (Option Expr)} {es:List Expr},ks.all Option.isSome=true→ks.length=es.length →
  (evalEachOpt ks env).zip ((evalEach es env).map fun v=>do let x ← v;standAt pos;pure x)=(mV env pos ks es).map (fun p=>(some p.1,p.2))∧(mV env pos ks es).length=es.length
 | [],[],_,_=>⟨rfl,rfl⟩
 | [],_::_,_,h=>by cases h
 |_::_,[],_,h=>by cases h
 |none::ks,e::es,h,_=>by exact bft h
 |some k::ks,e::es,h,h'=>by
  obtain⟨i1,i2⟩:=xU env pos (ks:=ks) (es:=es) h (Nat.succ.inj h');exact⟨congrArg ((some (eval k env),_)::·) i1,congrArg Nat.succ i2⟩
theorem Jj{rec:Expr→R V}{env:Env}{pos:Pos}{A:Around}{av:Addr→Prop}(hA:Room n hd l A):∀ {ks:List (Option Expr)} {es:List Expr} {s:Shared},(∀ k,some k∈ks→aE prog w mg mb base n hd l sc σ k (rec k)) →
  (∀ e∈es,aE prog w mg mb base n hd l sc σ e (rec e))→Inv0 prog w mg mb base l env sc σ av s →
  ∀ {β:Type} {k:List (PyData×PyData)→R β} {fin:R β} {Q:List (Value×Value)→Shared→Prop} {E:Value→Shared→Prop},Fin (lF rec ks es) k fin→(∀ vs s' ds,K l s s'→PR prog w s'.heap av vs ds→ds.length=es.length→k ds=fin→Q vs s')→EH prog w mg l s av fin E →
   wpAny (model prog w) A (evalPairs (mV env pos ks es)) Q E s
 := by
 intro ks
 induction ks with
 |nil =>
  intro es s _ _ _ β k fin Q E hf hq _;cases es with
  |nil=>exact evalPairs_nil (hq _ _ [] (K.rf l s) trivial rfl hf.ok)
  |cons=>exact hf.no.elim
 |cons ko ks ih =>
  intro es s hk he I β k fin Q E hf hq hE;cases ko with
  |none =>
   cases es with
   |nil=>exact hf.no.elim
   |cons=>exact hf.no.elim
  |some kx =>
   cases es with
   |nil=>exact hf.no.elim
   |cons e es =>
    refine evalPairs_cons (hk kx List.mem_cons_self A env s av hA I (Fin.b hf) (fun kv s₁ u k1 r h1=>?_) hE);have I1:=I.k k1;refine wpAny_bind (he e List.mem_cons_self A env s₁ av hA I1 (Fin.b ⟨h1,hf.2⟩) (fun vv s₂ u2 k2 r2 h2=>wpAny_bind (wpAny_standAt (wpAny_pure ?_))) (hE.back k1));refine ih (fun x hx=>hk x (List.mem_cons_of_mem _ hx)) (fun x hx=>he x (List.mem_cons_of_mem _ hx)) (I1.k k2) (Fin.b ⟨h2,hf.2⟩) (fun vs s₃ ds k3 r3 hl h3=>?_) (hE.back (k1.tr k2));exact hq _ _ ((dOf u,dOf u2)::ds) ((k1.tr k2).tr k3) ⟨((r.rep I.gnd.avlt).k I.gnd.fav k2).k I.gnd.fav k3,(r2.rep I1.gnd.avlt).k I.gnd.fav k3,r3⟩ (congrArg Nat.succ hl) h3
theorem bV.mono{h h':Heap}{av av':Addr→Prop}(hk:∀ b o,h.get? b=some o→h'.get? b=some o)(ha:∀ b o,h.get? b=some o→av' b→av b){v:Value}{u:V}(r:bV prog w mg l h av v u):bV prog w mg l h' av' v u:=by
 cases u with
 |fz d=>exact(show Rep prog w h av v d from r).mono (fun b o _ e=>hk b o e) ha
 |own d=>obtain⟨a,e,f,r⟩:=r;exact⟨a,e,f,r.mono (fun b o _ e=>hk b o e) ha fun o e=>hk _ o e⟩
 |ex x=>obtain⟨e,h,r⟩:=r;exact⟨e,h,r.mono (fun b o _ e=>hk b o e) ha⟩
theorem aW.keeps{env:Env}{h h':Heap}{x:Str}{u:Value}(v:aW env h x u)(hk:∀ b o,h.get? b=some o→h'.get? b=some o):aW env h' x u:=by
 rcases v with ⟨k,m,hn,e⟩ | ⟨k,c,e,hc⟩
 ·exact .inl ⟨k,m,hn.keeps hk,e⟩
 ·exact .inr ⟨k,c,e,hc.keeps hk⟩
theorem Gnd.apart{av:Addr→Prop}{s:Shared}(G:Gnd prog w mg mb base l av s)(o:Obj)(ho:o.isFreed=false):Gnd prog w mg mb base l (fun b=>av b∨b=s.heap.objs.size) { s with heap:=s.heap.push o } where
 glo:=G.glo
 stay:=fun b o e=>Heap.get?_push_of_some _ (G.stay b o e)
 ff:=(G.k (K.of (Kp.push' s o))).ff
 fav:=fun b f=>.inl (G.fav b f)
 avlt:=fun b hb=>hb.elim (fun hb=>by obtain⟨o,e⟩:=G.avlt b hb;exact⟨o,Heap.get?_push_of_some _ e⟩) fun hb=>⟨o,hb▸cH _ _ ho⟩
 avS:=.inl G.avS
theorem Inv0.apart{env:Env}{av:Addr→Prop}{s:Shared}(I:Inv0 prog w mg mb base l env sc σ av s)(o:Obj)(ho:o.isFreed=false) :
  Inv0 prog w mg mb base l env sc σ (fun b=>av b∨b=s.heap.objs.size) { s with heap:=s.heap.push o } :=
 { I with
  gnd:=I.gnd.apart o ho
  get:=fun x v hl e=>let ⟨u,h1,h2⟩:=I.get x v hl e
   ⟨u,h1.keeps fun b o e=>Heap.get?_push_of_some _ e,h2.mono (fun b o e=>Heap.get?_push_of_some _ e) fun b o e hb=>hb.elim id fun hb=>by (rw[hb,bL] at e;exact ns e)⟩ }
theorem ExAt.less{h:Heap}{av av':Addr→Prop}(ha:∀ b,av' b→av b){e:Addr}{x:X}(r:ExAt prog w mg h av e x):ExAt prog w mg h av' e x:=r.mono (fun _ _ _ e=>e) fun b _ _ x=>ha b x
theorem EH.apart{β:Type}{s:Shared}{av:Addr→Prop}{fin:R β}{E:Value→Shared→Prop}(h:EH prog w mg l s av fin E)(o:Obj):EH prog w mg l { s with heap:=s.heap.push o } (fun b=>av b∨b=s.heap.objs.size) fin E :=
 fun x v s'' e f=>h x v s'' e (by obtain⟨k',e,h1,h2,h3,h4⟩:=f;exact Fly.back (K.of (Kp.push' s o)) ⟨k',e,h1,h2,h3.less fun _ x=>.inl x,h4⟩)
theorem Jk{h:Heap}{av:Addr→Prop}:∀ {vs:List (Value×Value)} {ds:List (PyData×PyData)} {ps:List (Str×PyData)},PR prog w h av vs ds→keys? ds=some ps→(∃ kvs,Carries (strKind prog w) vs kvs∧PS prog w h av kvs ps)∧ps.length=ds.length
 := by
 intro vs
 induction vs with
 |nil =>
  intro ds ps x e;cases ds with
  |nil=>obtain rfl:=si e;exact⟨⟨[],trivial,trivial⟩,rfl⟩
  |cons=>exact x.elim
 |cons p vs ih =>
  obtain⟨key,v⟩:=p;intro ds ps x e;cases ds with
  |nil=>exact x.elim
  |cons q ds =>
   obtain⟨dk,d⟩:=q;obtain⟨x1,x2,x3⟩:=x;cases dk with
   |str k =>
    obtain⟨t,e1,hk⟩:=x1.str_inv;obtain rfl:key=.str k t:=e1;obtain⟨ps',e',rfl⟩:=Option.map_eq_some_iff.mp (show(keys? ds).map ((k,d)::·)=some ps from e);obtain⟨⟨kvs,y1,y2⟩,y3⟩:=ih x3 e';exact⟨⟨(k,v)::kvs,⟨dZ k t,rfl,y1⟩,rfl,hk,x2,y2⟩,congrArg Nat.succ y3⟩
   |_=>exact ns e
theorem K.but{s s₁:Shared}{o:Obj}{h':Heap}{tk:Nat}(k:K l { s with heap:=s.heap.push o } s₁)(hs:Heap.SameBut s.heap.objs.size s₁.heap h'):K l s { s₁ with heap:=h',toks:=tk }:=by
 obtain⟨hh,tt,rfl,kk,uu⟩:=k;have ne:∀ b o',s.heap.get? b=some o'→b≠s.heap.objs.size:=fun b o' e x=>by rw[x,bL] at e;exact ns e
 refine⟨h',tk,rfl,fun b o' f e=>?_,fun b o' e=>?_⟩
 ·rw[hs.2 b (ne b o' e)];exact kk b o' f (Heap.get?_push_of_some _ e)
 ·rw[hs.2 b (ne b o' e)];exact uu b o' (Heap.get?_push_of_some _ e)
theorem Jl{h h':Heap}{D:Addr}{av:Addr→Prop}(hs:Heap.SameBut D h h'):∀ b o,¬ (av b∨b=D)→h.get? b=some o→h'.get? b=some o:=fun b o hb e=>by
 rw[hs.2 b (fun x=>hb (.inr x))];exact e
theorem Jm{rec:Expr→R V}{ks:List (Option Expr)}{es:List Expr}{pos:Pos}(hk:∀ k,some k∈ks→aE prog w mg mb base n hd l sc σ k (rec k))(he:∀ e∈es,aE prog w mg mb base n hd l sc σ e (rec e)) :
  aE prog w mg mb base n hd l sc σ (.Dict ks es pos) (if ks.all Option.isSome=true∧ks.length=es.length∧es.length≤15 then rb (lF rec ks es) fun l=>ofP (jJ l) else .no):=by
 intro A env s av hA I β k fin Q E hf hq hE;obtain⟨⟨c1,c2,c3⟩,hf⟩:=Fin.ite hf;obtain⟨g1,g2⟩:=xU env pos c1 c2;cases es with
 |nil =>
  obtain rfl:ks=[]:=List.length_eq_zero_iff.mp c2;exact wpAny_Dict_empty (hq.step (u:=.own (.dict [])) (K.rf l s) (xJ (kvs:=[]) (ps:=[]) (Kp.rfl' s) (Kp.push' s _) (bL _) (mP I.gnd) (Heap.DictOf.new s.heap) (Nat.zero_le _) trivial) hf.1)
 |cons e es =>
  refine wpAny_Dict_pairs (knd:=strKind prog w) g1 (fun h=>by rw[h] at g2;cases g2) (g2.symm▸c3) (Jj hA hk he (I.apart _ rfl) hf.b (fun vs s₁ ds k1 r hl h1=>?_) (hE.apart _));obtain⟨v,e1,e2⟩:=Fin.p ⟨h1,hf.2⟩;unfold jJ at e1;refine ocs (keys? ds) (fun hds=>?_) fun ps hds=>?_
  ·try rewrite[hds]
   rw[hds] at e1;exact pno e1
  ·try rewrite[hds]
   rw[hds] at e1;obtain rfl:=pi e1;obtain⟨⟨kvs,q1,q2⟩,q3⟩:=Jk r hds;have hd0:s₁.heap.DictOf (strKind prog w) s.heap.objs.size []:=by
    obtain⟨o,es,ep,e,r⟩:=Heap.DictOf.new (knd:=strKind prog w) s.heap;exact⟨o,es,ep,k1.at (fun f=>by obtain⟨o,e⟩:=I.gnd.avlt _ (I.gnd.fav _ f);rw[bL] at e;exact ns e) e,r⟩
   refine⟨kvs,q1,hd0,fun h' hd hs=>hq _ _ (.own (.dict (cK ps []))) (K.but k1 hs) ?_ e2⟩;obtain⟨y1,y2⟩:=KV.sets q2 (acc:=[]) List.nodup_nil (show KV prog w s₁.heap _ [] [] from trivial) nofun;have hkv:=(y1.mono (h':=h') (av':=fun b=>av b∨b=s.heap.objs.size) (Jl hs) fun _ _ _ x=>x).out;refine⟨s.heap.objs.size,rfl,bL _,merged [] kvs,hd,⟨Nat.le_trans (merged_length_le [] kvs) ?_,y2⟩,mP I.gnd,hkv.1,hkv.2⟩;rw[q2.length,q3,hl];exact Nat.le_trans (by simpa using c3) (by decide:15≤sizeLine)
end
end Mine
namespace Mine
open PySem
section
variable {prog:Program} {w:World} {mg mb:Str→Option Value} {base:Heap} {n:Nat} {hd:Bool} {l:List Env} {sc:Scope} {σ:aA}
structure Src(prog:Program)(w:World)(A:Around)(h0:Heap)(av0:Addr→Prop)(target:Expr)(it:Value)(wr:Addr→Prop)(St:Nat→Heap→Prop)(ds:List PyData):Prop where
 live:∀ i h,St i h→∀ b,wr b→∃ o,h.get? b=some o
 frame:∀ i h h',St i h→(∀ b o,wr b→h.get? b=some o→h'.get? b=some o)→(∀ b o,h0.get? b=some o→¬ av0 b→h'.get? b=some o)→St i h'
 item:∀ i d (s:Shared) (E:Value→Shared→Prop) (Q:Value→Shared→Prop),ds[i]?=some d→St i s.heap →
  (∀ v h' tk,(∀ b o,¬ wr b→s.heap.get? b=some o→h'.get? b=some o)→St (i+1) h' →
   (∀ avn:Addr→Prop,(∀ b,avn b→∃ o,s.heap.get? b=some o)→(∀ b o,h0.get? b=some o→avn b→av0 b)→Rep prog w h' avn v d)→Q v { s with heap:=h',toks:=tk }) →
  wpAny (model prog w) A (pyNext it) (fun r s₁=>match r with | none=>False | some v=>wpAny (model prog w) A (letOwnedTupleGo target it v) (fun _ s₂=>Q v s₂) E s₁) E s
 done:∀ (s:Shared) (E:Value→Shared→Prop) (Q:Shared→Prop),St ds.length s.heap→(∀ h' tk,(∀ b o,¬ wr b→s.heap.get? b=some o→h'.get? b=some o)→Q { s with heap:=h',toks:=tk }) →
  wpAny (model prog w) A (pyNext it) (fun r s₁=>match r with | none=>Q s₁ | some _=>False) E s
 self:∀ i (s:Shared) (Q:Value→Shared→Prop) (E:Value→Shared→Prop),St i s.heap→Q it s→wpAny (model prog w) A (pyIter it) Q E s
noncomputable def qH(n:String):Bool:=["enumerate", "zip", "dict_itemiterator", "dict_reverseitemiterator", "odict_iterator", "itertools.zip_longest", "itertools.pairwise"].contains n
theorem Jn{M:Model}{A:Around}{E:Value→Shared→Prop}{s:Shared}{target:Expr}{I:Addr}{v:Value}{o:Obj}{n:String}{Q:Unit→Shared→Prop}(hI:s.heap.get? I=some o)(hc:o.cls=.type n)(hn:qH n=false)(h:Q () s) :
  wpAny M A (letOwnedTupleGo target (.ref I) v) Q E s:=by
 have key:wpAny M A (match (Value.ref I,v) with
  | (.ref r,.ref a)=>(do
   let o ← load r
   match o.cls,o.data with
   | .type n,.fields vs=>if ["enumerate", "zip", "dict_itemiterator", "dict_reverseitemiterator", "odict_iterator", "itertools.zip_longest", "itertools.pairwise"].contains n&&vs[0]?==some (rawInt a) then do
     rule "for.unpacks-the-owned-tuple"; updateField r 0 .none else pure ()
   |_,_=>pure ():Sem Unit)
  |_=>pure ()) Q E s:=by
  cases v with
  |ref a =>
   refine wpAny_bind (wpAny_load hI ?_);rw[hc];cases o.data<;>first | exact wpAny_pure h | skip;have:["enumerate", "zip", "dict_itemiterator", "dict_reverseitemiterator", "odict_iterator", "itertools.zip_longest", "itertools.pairwise"].contains n=false:=hn;simp only[this,Bool.false_and,Bool.false_eq_true,if_false];exact wpAny_pure h
  |_=>exact wpAny_pure h
 cases target with
 |Tuple=>exact key
 |List=>exact key
 |_=>exact wpAny_pure h
theorem iC{α:Type}{ds:List α}{i:Nat}{d:α}(h:ds[i]?=some d):i < ds.length:=(List.getElem?_eq_some_iff.mp h).1
theorem Src.ofWalks{A:Around}{h0:Heap}{av0:Addr→Prop}{target:Expr}{I:Addr}{fp:List Addr}{ds:List PyData}{n:Nat}{P:Nat→Value→Prop}{St0:Nat→Heap→Prop}(W:Walks prog w A I fp [I] n P St0)(hn:n=ds.length)
  (hfp:∀ b∈fp,b=I∨((∃ o,h0.get? b=some o)∧¬ av0 b)) (hcls:∀ i h,St0 i h→∃ o T,h.get? I=some o∧o.cls=.type T∧qH T=false)
  (hI0:h0.get? I=none) (hP:∀ i v d,P i v→ds[i]?=some d→Rep prog w h0 av0 v d) :
  Src prog w A h0 av0 target (.ref I) (fun b=>b=I) (fun i h=>St0 i h∧∀ b o,h0.get? b=some o→¬ av0 b→h.get? b=some o) ds where
 live:=fun i h st b hb=>by obtain⟨o,T,e,_⟩:=hcls i h st.1;exact⟨o,(show b=I from hb)▸e⟩
 frame:=fun i h h' st hk hk0=>⟨W.frame i h h' st.1 fun b hb o e=>by
  rcases hfp b hb with rfl | ⟨⟨o',e'⟩,hav⟩
  ·exact hk b o rfl e
  ·have:=st.2 b o' e' hav;rw[e] at this;obtain rfl:=si this;exact hk0 b o e' hav,hk0⟩
 item:=fun i d s E Q hd st hQ=>by
  refine W.item i s _ E (hn▸iC hd) st.1 fun v h' tk hPv st' hk=>?_;obtain⟨o,T,e1,e2,e3⟩:=hcls _ _ st';have hk':∀ b o,¬ (b=I)→s.heap.get? b=some o→h'.get? b=some o:=fun b o hb e=>hk b o (fun h=>hb (List.mem_singleton.mp h)) e;have hkk:∀ b o,h0.get? b=some o→¬ av0 b→h'.get? b=some o:=fun b o e hav=>hk' b o (fun x=>by rw[x,hI0] at e;exact ns e) (st.2 b o e hav);refine Jn (s:={ s with heap:=h',toks:=tk }) e1 e2 e3 (hQ v h' tk hk' ⟨st',hkk⟩ fun avn hlive hsub=>?_);exact(hP i v d hPv hd).mono (fun b o hb e=>hkk b o e hb) hsub
 done:=fun s E Q st hQ=>W.done s _ E (show St0 n s.heap from hn▸st.1) fun h' tk hk=>hQ h' tk fun b o hb e=>hk b o (fun h=>hb (List.mem_singleton.mp h)) e
 self:=fun i s Q E st hQ=>W.self i s Q E st.1 hQ
inductive IterAt(prog:Program)(w:World)(A:Around)(l:List Env)(target:Expr)(s:Shared)(av:Addr→Prop)(it:Value)(s':Shared)(ds:List PyData):Prop where
 |mk (s₁ wr St) (a:K l s s₁) (b:Src prog w A s₁.heap av target it wr St ds) (c:St 0 s'.heap) (d:∀ b,wr b→s₁.heap.get? b=none∧∃ o,s'.heap.get? b=some o) (e:Kp s₁ s') (f:ds.length≤sizeLine):IterAt prog w A l target s av it s' ds
theorem jV{h:Heap}{a:Addr}{o:Obj}(e:h.get? a=some o):a≠h.objs.size:=fun x=>by rw[x,bL] at e;exact ns e
theorem gG{A:Around}{target:Expr}{s₀ s:Shared}{av:Addr→Prop}{ds:List PyData}{o:Obj}(k0:K l s₀ s)(ho:o.isFreed=false){fp:List Addr}{n:Nat}{P:Nat→Value→Prop}{St0:Nat→Heap→Prop}
  (W:Walks prog w A s.heap.objs.size fp [s.heap.objs.size] n P St0) (hn:n=ds.length) (hz:ds.length≤sizeLine)
  (hfp:∀ b∈fp,b=s.heap.objs.size∨((∃ o,s.heap.get? b=some o)∧¬ av b)) (hcls:∀ i h,St0 i h→∃ o T,h.get? s.heap.objs.size=some o∧o.cls=.type T∧qH T=false)
  (hP:∀ i v d,P i v→ds[i]?=some d→Rep prog w s.heap av v d) (hst:St0 0 (s.heap.push o)) :
  IterAt prog w A l target s₀ av (.ref s.heap.objs.size) { s with heap:=s.heap.push o } ds :=
 ⟨s,_,_,k0,Src.ofWalks W hn hfp hcls (bL _) hP,⟨hst,fun b o' e _=>Heap.get?_push_of_some _ e⟩,fun b hb=>(show b=s.heap.objs.size from hb)▸⟨bL _,o,cH _ _ ho⟩,Kp.push' s o,hz⟩
theorem fp2{s:Shared}{av:Addr→Prop}{a:Addr}{o:Obj}(e:s.heap.get? a=some o)(h1:¬ av a):∀ b∈[s.heap.objs.size,a],b=s.heap.objs.size∨((∃ o,s.heap.get? b=some o)∧¬ av b):=fun b hb=>by
 rcases List.mem_cons.mp hb with hb | hb
 ·exact .inl hb
 ·exact .inr (List.mem_singleton.mp hb▸⟨⟨_,e⟩,h1⟩)
theorem Jo{A:Around}{target:Expr}{s₀ s:Shared}{av:Addr→Prop}{v:Value}{d:PyData}{ds:List PyData}(k0:K l s₀ s)(hh:A.handled=none)(r:Rep prog w s.heap av v d)(hi:items d=.ok ds)
  {Q:Value→Shared→Prop} {E:Value→Shared→Prop} (hq:∀ it s',IterAt prog w A l target s₀ av it s' ds→Q it s'):wpAny (model prog w) A (pyIter v) Q E s:=by
 cases d with
 |list dl =>
  obtain rfl:=pi hi;obtain⟨a,vs,rfl,h1,⟨n,e⟩,h3,h4,h5⟩:=r.list_inv;exact wpAny_pyIter_list ⟨_,e,rfl,_,rfl⟩ (hq _ _ (gG k0 rfl (Walks.list hh s.heap.objs.size a (jV e) vs.toArray) (by simpa using h3) (h3▸h4) (fp2 e h1) (fun i h st=>by obtain⟨⟨o,e,c,_⟩,_⟩:=st;exact⟨o,_,e,c,by decide⟩)
   (fun i v d hP hd=>h5 i v d (by simpa using hP) hd) ⟨⟨_,cH _ _ rfl,rfl,rfl⟩,⟨_,Heap.get?_push_of_some _ e,rfl,_,rfl⟩⟩))
 |tuple dl =>
  obtain rfl:=pi hi;obtain⟨a,vs,rfl,h1,⟨n,e⟩,h3,h4,h5⟩:=r.tuple_inv;exact wpAny_pyIter_tuple ⟨_,e,rfl,_,rfl⟩ (hq _ _ (gG k0 rfl (Walks.tuple hh s.heap.objs.size a (jV e) vs.toArray) (by simpa using h3) (h3▸h4) (fp2 e h1) (fun i h st=>by obtain⟨⟨o,e,c,_⟩,_⟩:=st;exact⟨o,_,e,c,by decide⟩)
   (fun i v d hP hd=>h5 i v d (by simpa using hP) hd) ⟨⟨_,cH _ _ rfl,rfl,rfl⟩,⟨_,Heap.get?_push_of_some _ e,rfl,_,rfl⟩⟩))
 |dict dl =>
  obtain rfl:=pi hi;obtain⟨a,kvs,rfl,h1,⟨o,es,ep,e,hd⟩,h3,h4,h5,h6⟩:=r.dict_inv;have hl:dl.length=kvs.length:=by simpa using congrArg List.length h5
  refine wpAny_pyIter_dict (knd:=strKind prog w) (kvs:=kvs) (ep:=ep) h4 ⟨o,es,e,hd⟩ (hq _ _ (gG k0 rfl (Walks.dictKeys (knd:=strKind prog w) hh s.heap.objs.size a (jV e) kvs ep) (by simp[hl]) (by simpa[hl] using h3.1) (fp2 e h1) (fun i h st=>by obtain⟨⟨o,e,c,_⟩,_⟩:=st;exact⟨o,_,e,c,by decide⟩)
   (fun i v d hP hd=>?_) ⟨⟨_,cH _ _ rfl,rfl,rfl⟩,⟨o,es,Heap.get?_push_of_some _ e,hd⟩⟩))
  obtain⟨k,x,e3,e4⟩:=hP;obtain⟨t,rfl⟩:=Value.isStrOf_shape e4;rw[h5,List.getElem?_map,e3] at hd;obtain rfl:=si hd;exact .str k t (h3.2 _ (List.mem_of_getElem? e3))
 |str x =>
  obtain rfl:=pi hi;obtain⟨t,rfl,hx⟩:=r.str_inv;refine wpAny_pyIter_strU (hq _ _ ?_);have hP:∀ (i:Nat) (v:Value) (d:PyData),SignAt x i v→(x.cps.toList.map bF)[i]?=some d→Rep prog w s.heap av v d:=fun i v d hP hd=>by
   obtain⟨c,u,e1,rfl⟩:=hP;rw[List.getElem?_map,Array.getElem?_toList,e1] at hd;obtain rfl:=si hd;exact .str _ u (by rw[sizeLine_eq];exact Nat.le_of_ble_eq_true rfl)
  have hfp:∀ b∈[s.heap.objs.size],b=s.heap.objs.size∨((∃ o,s.heap.get? b=some o)∧¬ av b):=fun b hb=>.inl (List.mem_singleton.mp hb);have hz:(x.cps.toList.map bF).length≤sizeLine:=by simpa using (show x.cps.size≤sizeLine from hx)
  by_cases ha:x.cps.all (· < 128)=true
  ·rw[show strIterType x = "str_ascii_iterator" from if_pos ha];exact gG k0 rfl (Walks.strAscii hh s.heap.objs.size x t) (by simp) hz hfp (fun i h st=>by obtain⟨o,e,c,_⟩:=st;exact⟨o,_,e,c,by decide⟩) hP ⟨_,cH _ _ rfl,rfl,rfl⟩
  ·rw[show strIterType x = "str_iterator" from if_neg ha];exact gG k0 rfl (Walks.strWide hh s.heap.objs.size x t) (by simp) hz hfp (fun i h st=>by obtain⟨o,e,c,_⟩:=st;exact⟨o,_,e,c,by decide⟩) hP ⟨_,cH _ _ rfl,rfl,rfl⟩
 |_=>exact pno hi
end
end Mine
namespace Mine
open PySem
section
variable {prog:Program} {w:World} {A:Around} {E:Value→Shared→Prop} {s:Shared}
theorem mW{it l:Addr}{i:Nat}{items:Array Value}{x:Value}{Q:Value→Shared→Prop}(hit:s.heap.IsTupleIter it l i)(hl:s.heap.IsTuple l items)(hx:items[i]?=some x)
  (hQ:∀ h',h'.IsTupleIter it l (i+1)→Heap.SameBut it s.heap h'→Q x { s with heap:=h' }):wpAny (model prog w) A (Builtin.SmallTypes.nextOf (.ref it)) Q E s:=by
 obtain⟨o,ho,hc,hd⟩:=id hit;obtain⟨ol,hol,_,nl,hdl⟩:=hl;unfold Builtin.SmallTypes.nextOf;refine wpAny_bind (wpAny_callSpecial?_slot (name:=Str.ofString "__next__") hit.typeIs F.slot_tuple_iterator_next (wpAny_call_entry F.slot_tuple_iterator_next hit.typeIs F.entry_tuple_iterator_next ?_ (F.args_tuple_iterator_next_1 _)));show wpAny _ _ (field (.ref it) 0 >>= _) _ _ s;refine wpAny_bind (wpAny_field ho hd (x:=.ref l) rfl ?_);show wpAny _ _ (if (Value.ref l==Value.none)=true then _ else _) _ _ s;rw[if_neg (show ¬ ((Value.ref l==Value.none)=true) from Bool.false_ne_true)];show wpAny _ _ (field (.ref it) 1 >>= _) _ _ s;refine wpAny_bind (wpAny_field ho hd (x:=.int i 0) rfl ?_);show wpAny _ _ (seqItems? (.ref l) >>= _) _ _ s;refine wpAny_bind (wpAny_seqItems hol hdl ?_);simp only[Int.toNat_natCast,hx];refine wpAny_bind (wpAny_setField ho hd (by simp) (wpAny_pure ⟨x,rfl,wpAny_pure (hQ _ ?_ (Heap.SameBut.update ..))⟩));exact⟨_,Heap.get?_update_self _ ho (Obj.isFreed_of_fields (Obj.data_mapFields hd _)),(Obj.cls_mapFields ..).trans hc,by rw[Obj.data_mapFields hd];simp[rawInt]⟩
theorem qI{it l:Addr}{i:Nat}{items:Array Value}{Q:Value→Shared→Prop}(hh:A.handled=none)(hit:s.heap.IsTupleIter it l i)(hl:s.heap.IsTuple l items)(hx:items[i]?=none)
  (hE:∀ h' e,Heap.ExtBut it s.heap h'→(∃ o,h'.get? e=some o∧o.cls=.type "StopIteration")→E (.ref e) { s with heap:=h' }):wpAny (model prog w) A (Builtin.SmallTypes.nextOf (.ref it)) Q E s:=by
 obtain⟨o,ho,hc,hd⟩:=id hit;obtain⟨ol,hol,_,nl,hdl⟩:=hl;unfold Builtin.SmallTypes.nextOf;refine wpAny_bind (wpAny_callSpecial?_slot (name:=Str.ofString "__next__") hit.typeIs F.slot_tuple_iterator_next (wpAny_call_entry F.slot_tuple_iterator_next hit.typeIs F.entry_tuple_iterator_next ?_ (F.args_tuple_iterator_next_1 _)));show wpAny _ _ (field (.ref it) 0 >>= _) _ _ s;refine wpAny_bind (wpAny_field ho hd (x:=.ref l) rfl ?_);show wpAny _ _ (if (Value.ref l==Value.none)=true then _ else _) _ _ s;rw[if_neg (show ¬ ((Value.ref l==Value.none)=true) from Bool.false_ne_true)];show wpAny _ _ (field (.ref it) 1 >>= _) _ _ s;refine wpAny_bind (wpAny_field ho hd (x:=.int i 0) rfl ?_);show wpAny _ _ (seqItems? (.ref l) >>= _) _ _ s;refine wpAny_bind (wpAny_seqItems hol hdl ?_);simp only[Int.toNat_natCast,hx];refine wpAny_bind (wpAny_rule (wpAny_bind (wpAny_setField ho hd (by simp) ?_)));show wpAny _ _ (newExc (.type "StopIteration") [] >>= _) _ _ _;refine wpAny_bind ?_;simp only[newExc,newTuple];refine wpAny_bind (wpAny_newObj_type ?_ (by size_fits));refine wpAny_bind (m:=firstArgMember _ _) (wpAny_of_eq (a:=Value.none) (by first | rfl | (simp only[firstArgMember];rfl)) ?_);refine wpAny_newObj_type ?_ (by size_fits);simp only[raiseNew];refine wpAny_bind (wpAny_handled ?_)
 first | rw[show A.in1.handled=none from hh] | rw[hh]
 refine wpAny_bind (wpAny_pure (wpAny_throw ?_));exact hE _ _ (((Heap.SameBut.update ..).extBut.push _).push _) ⟨_,Heap.get?_push_size _ rfl,rfl⟩
theorem Jp(hh:A.handled=none)(it l:Addr)(hne:l≠it)(items:Array Value):Draws prog w A it [it,l] items.size (fun i v=>items[i]?=some v) (fun i h=>h.IsTupleIter it l i∧h.IsTuple l items) where
 live:=fun _ _ st=>by obtain⟨⟨o,ho,_⟩,_⟩:=st;exact⟨o,ho⟩
 frame:=fun _ _ _ st hk=>by
  obtain⟨⟨o,ho,r⟩,⟨o',ho',r'⟩⟩:=st;exact⟨⟨o,hk it (by simp) o ho,r⟩,⟨o',hk l (by simp) o' ho',r'⟩⟩
 item:=fun i s Q E hi st hQ=>mW st.1 st.2 (x:=items[i]) (by simp[hi]) fun h' hit' hs'=>hQ _ h' s.toks (by simp[hi]) ⟨hit',st.2.extBut hs'.extBut hne⟩ hs'
 done:=fun s Q E st hE=>qI hh st.1 st.2 (by simp) hE
theorem Jq{z TI TO i1 i2 l1 l2:Addr}{k1 k2:Nat}{xs ys:Array Value}{x y a b:Value}{Q:Value→Shared→Prop}(D:ZipApart z TI TO i1 i2 l1 l2)
  (hz:IsZip s.heap z TI TO .none) (hTI:IsPair s.heap TI (.ref i1) (.ref i2)) (hTO:IsPair s.heap TO a b)
  (h1:s.heap.IsTupleIter i1 l1 k1) (h2:s.heap.IsTupleIter i2 l2 k2) (hl1:s.heap.IsTuple l1 xs) (hl2:s.heap.IsTuple l2 ys) (hx:xs[k1]?=some x) (hy:ys[k2]?=some y)
  (hQ:∀ h',IsZip h' z TI TO (rawInt s.heap.objs.size)→IsPair h' TO x y→h'.IsTupleIter i1 l1 (k1+1)→h'.IsTupleIter i2 l2 (k2+1)→IsPair h' s.heap.objs.size x y→h'.objs.size=s.heap.objs.size+1 →
   (∀ c o,c≠z→c≠TO→c≠i1→c≠i2→s.heap.get? c=some o→h'.get? c=some o)→Q (.ref s.heap.objs.size) { s with heap:=h' }) :
  wpAny (model prog w) A (Builtin.«zip.__next__» ⟨[.ref z],[]⟩) (fun fin s'=>∃ v,fin=.done (.ret v)∧Q v s') E s:=by
 show wpAny _ _ (field (.ref z) 2 >>= _) _ _ _;refine wpAny_bind (wpAny_field hz rfl (x:=.bool false) rfl ?_);show wpAny _ _ (field (.ref z) 3 >>= _) _ _ _;refine wpAny_bind (wpAny_field hz rfl (x:=.ref TI) rfl ?_);refine wpAny_bind (wpAny_seqItems hTI rfl ?_);show wpAny _ _ (Builtin.SmallTypes.ownedTupleIsFree (.ref z) >>= _) _ _ _;refine wpAny_bind ?_;unfold Builtin.SmallTypes.ownedTupleIsFree;refine wpAny_bind (wpAny_field hz rfl (x:=.none) rfl (wpAny_pure ?_));simp only[if_true];refine wpAny_bind (wpAny_rule ?_);refine wpAny_bind (wpAny_field hz rfl (x:=.ref TO) rfl ?_);refine wpAny_bind (wpAny_setField_rec hz (by simp) fun h₁ hz₁ hs₁=>?_);replace hz₁:IsZip h₁ z TI TO .ellipsis:=hz₁;refine wpAny_bind ?_;simp only[List.zipIdx_cons,List.zipIdx_nil,List.forIn_cons,List.forIn_nil];refine wpAny_bind (wpAny_bind (wpAny_onRaise ?_));show wpAny _ _ (Builtin.SmallTypes.nextOf (.ref i1) >>= _) _ _ _;refine wpAny_bind (mW (h1.extBut hs₁.extBut D.i1z) (hl1.extBut hs₁.extBut D.l1z) hx fun h₂ h1₂ hs₂=>wpAny_pure ?_);have hTO₂:IsPair h₂ TO a b:=hs₂.extBut _ _ D.TOi1 (hs₁.extBut _ _ D.TOz hTO);refine wpAny_bind (wpAny_seqItems hTO₂ rfl ?_);refine wpAny_bind (wpAny_updateSeq_pair hTO₂ fun h₃ hTO₃ hs₃=>?_);replace hTO₃:IsPair h₃ TO x b:=hTO₃;refine wpAny_bind (wpAny_letGo (wpAny_pure ?_));refine wpAny_bind (wpAny_bind (wpAny_onRaise ?_));show wpAny _ _ (Builtin.SmallTypes.nextOf (.ref i2) >>= _) _ _ _;refine wpAny_bind (mW (((h2.extBut hs₁.extBut D.i2z).extBut hs₂.extBut D.i12.symm).extBut hs₃.extBut D.TOi2.symm) (((hl2.extBut hs₁.extBut D.l2z).extBut hs₂.extBut D.l2i1).extBut hs₃.extBut D.l2TO) hy fun h₄ h2₄ hs₄=>wpAny_pure ?_);have hTO₄:IsPair h₄ TO x b:=hs₄.extBut _ _ D.TOi2 hTO₃;refine wpAny_bind (wpAny_seqItems hTO₄ rfl ?_);refine wpAny_bind (wpAny_updateSeq_pair hTO₄ fun h₅ hTO₅ hs₅=>?_);replace hTO₅:IsPair h₅ TO x y:=hTO₅;refine wpAny_bind (wpAny_letGo (wpAny_pure (wpAny_pure ?_)));refine wpAny_bind (wpAny_seqItems hTO₅ rfl ?_);refine wpAny_bind (wpAny_newTuple ?_);have hsz:h₅.objs.size=s.heap.objs.size:=by rw[hs₅.1,hs₄.1,hs₃.1,hs₂.1,hs₁.1]
 have hz₅:IsZip h₅ z TI TO .ellipsis:=hs₅.extBut _ _ D.TOz.symm (hs₄.extBut _ _ D.i2z.symm (hs₃.extBut _ _ D.TOz.symm (hs₂.extBut _ _ D.i1z.symm hz₁)));have hk₅:∀ c o,c≠z→c≠TO→c≠i1→c≠i2→s.heap.get? c=some o→h₅.get? c=some o:=fun c o c1 c2 c3 c4 e =>
  hs₅.extBut _ _ c2 (hs₄.extBut _ _ c4 (hs₃.extBut _ _ c2 (hs₂.extBut _ _ c3 (hs₁.extBut _ _ c1 e))))
 have h1₅:h₅.IsTupleIter i1 l1 (k1+1):=((h1₂.extBut hs₃.extBut D.TOi1.symm).extBut hs₄.extBut D.i12).extBut hs₅.extBut D.TOi1.symm;have h2₅:h₅.IsTupleIter i2 l2 (k2+1):=h2₄.extBut hs₅.extBut D.TOi2.symm;have hzlt:z < h₅.objs.size:=Heap.lt_size hz₅;show wpAny _ _ (Builtin.SmallTypes.ownedTupleHandOut (.ref z) (.ref h₅.objs.size) >>= _) _ _ _;refine wpAny_bind ?_;unfold Builtin.SmallTypes.ownedTupleHandOut;have hz₆:IsZip (h₅.push { cls:=.type "tuple", data:=.seq #[x,y] }) z TI TO .ellipsis:=Heap.get?_push_of_some _ hz₅;refine wpAny_bind (wpAny_setField_rec hz₆ (by simp) fun h₇ hz₇ hs₇=>?_);replace hz₇:IsZip h₇ z TI TO (rawInt h₅.objs.size):=hz₇;refine wpAny_setField_rec hz₇ (by simp) fun h₈ hz₈ hs₈=>?_;replace hz₈:IsZip h₈ z TI TO (rawInt h₅.objs.size):=hz₈;have up:∀ c o,c≠z→h₅.get? c=some o→h₈.get? c=some o:=fun c o c1 e=>hs₈.extBut _ _ c1 (hs₇.extBut _ _ c1 (Heap.get?_push_of_some _ e));have hT₈:IsPair h₈ h₅.objs.size x y:=hs₈.extBut _ _ (Nat.ne_of_gt hzlt) (hs₇.extBut _ _ (Nat.ne_of_gt hzlt) (Heap.get?_push_size _ rfl));have hz8:h₈.objs.size=h₅.objs.size+1:=by rw[hs₈.1,hs₇.1,Heap.size_push]
 rw[hsz] at hz₈ hT₈ hz8;refine wpAny_pure ⟨_,rfl,?_⟩;show Q (.ref h₅.objs.size) _;rw[hsz];have at':∀ {i l k},i≠z→h₅.IsTupleIter i l k→h₈.IsTupleIter i l k:=fun hi st=>by obtain⟨o,e,r⟩:=st;exact⟨o,up _ o hi e,r⟩
 exact hQ h₈ hz₈ (up _ _ D.TOz hTO₅) (at' D.i1z h1₅) (at' D.i2z h2₅) hT₈ hz8 fun c o c1 c2 c3 c4 e=>up c o c1 (hk₅ c o c1 c2 c3 c4 e)
theorem Jr{z TI TO i1 i2 l1 l2:Addr}{k1 k2:Nat}{xs ys:Array Value}{a b:Value}{Q:PySem.Fin→Shared→Prop}(hh:A.handled=none)(D:ZipApart z TI TO i1 i2 l1 l2)
  (hz:IsZip s.heap z TI TO .none) (hTI:IsPair s.heap TI (.ref i1) (.ref i2)) (hTO:IsPair s.heap TO a b)
  (h1:s.heap.IsTupleIter i1 l1 k1) (h2:s.heap.IsTupleIter i2 l2 k2) (hl1:s.heap.IsTuple l1 xs) (hl2:s.heap.IsTuple l2 ys) (hend:xs[k1]?=none∨ys[k2]?=none)
  (hE:∀ h' e,(∀ c o,c≠z→c≠TO→c≠i1→c≠i2→s.heap.get? c=some o→h'.get? c=some o)→(∃ o,h'.get? e=some o∧o.cls=.type "StopIteration")→E (.ref e) { s with heap:=h' }) :
  wpAny (model prog w) A (Builtin.«zip.__next__» ⟨[.ref z],[]⟩) Q E s:=by
 show wpAny _ _ (field (.ref z) 2 >>= _) _ _ _;refine wpAny_bind (wpAny_field hz rfl (x:=.bool false) rfl ?_);show wpAny _ _ (field (.ref z) 3 >>= _) _ _ _;refine wpAny_bind (wpAny_field hz rfl (x:=.ref TI) rfl ?_);refine wpAny_bind (wpAny_seqItems hTI rfl ?_);show wpAny _ _ (Builtin.SmallTypes.ownedTupleIsFree (.ref z) >>= _) _ _ _;refine wpAny_bind ?_;unfold Builtin.SmallTypes.ownedTupleIsFree;refine wpAny_bind (wpAny_field hz rfl (x:=.none) rfl (wpAny_pure ?_));simp only[if_true];refine wpAny_bind (wpAny_rule ?_);refine wpAny_bind (wpAny_field hz rfl (x:=.ref TO) rfl ?_);refine wpAny_bind (wpAny_setField_rec hz (by simp) fun h₁ hz₁ hs₁=>?_);replace hz₁:IsZip h₁ z TI TO .ellipsis:=hz₁;refine wpAny_bind ?_;simp only[List.zipIdx_cons,List.zipIdx_nil,List.forIn_cons,List.forIn_nil];refine wpAny_bind (wpAny_bind (wpAny_onRaise ?_));show wpAny _ _ (Builtin.SmallTypes.nextOf (.ref i1) >>= _) _ _ _;cases hx:xs[k1]? with
 |none =>
  refine wpAny_bind (qI hh (h1.extBut hs₁.extBut D.i1z) (hl1.extBut hs₁.extBut D.l1z) hx fun h₂ e hs₂ he=>?_);obtain⟨oe,hoe,hce⟩:=he;have hz₂:IsZip h₂ z TI TO .ellipsis:=hs₂ _ _ D.i1z.symm hz₁;have hez:e≠z:=fun x=>by subst x;rw[hz₂] at hoe;cases hoe;simp at hce
  refine wpAny_setField_rec hz₂ (by simp) fun h₃ _ hs₃=>hE h₃ e (fun c o c1 _ c3 _ x=>hs₃.extBut _ _ c1 (hs₂ _ _ c3 (hs₁.extBut _ _ c1 x))) ⟨oe,hs₃.extBut _ _ hez hoe,hce⟩
 |some x =>
  have hy:ys[k2]?=none:=by rcases hend with h | h;rw[hx] at h;cases h;exact h
  refine wpAny_bind (mW (h1.extBut hs₁.extBut D.i1z) (hl1.extBut hs₁.extBut D.l1z) hx fun h₂ h1₂ hs₂=>wpAny_pure ?_);have hTO₂:IsPair h₂ TO a b:=hs₂.extBut _ _ D.TOi1 (hs₁.extBut _ _ D.TOz hTO);refine wpAny_bind (wpAny_seqItems hTO₂ rfl ?_);refine wpAny_bind (wpAny_updateSeq_pair hTO₂ fun h₃ hTO₃ hs₃=>?_);refine wpAny_bind (wpAny_letGo (wpAny_pure ?_));refine wpAny_bind (wpAny_bind (wpAny_onRaise ?_));show wpAny _ _ (Builtin.SmallTypes.nextOf (.ref i2) >>= _) _ _ _;refine wpAny_bind (qI hh (((h2.extBut hs₁.extBut D.i2z).extBut hs₂.extBut D.i12.symm).extBut hs₃.extBut D.TOi2.symm) (((hl2.extBut hs₁.extBut D.l2z).extBut hs₂.extBut D.l2i1).extBut hs₃.extBut D.l2TO) hy fun h₄ e hs₄ he=>?_);obtain⟨oe,hoe,hce⟩:=he;have hz₄:IsZip h₄ z TI TO .ellipsis:=hs₄ _ _ D.i2z.symm (hs₃.extBut _ _ D.TOz.symm (hs₂.extBut _ _ D.i1z.symm hz₁));have hez:e≠z:=fun x=>by subst x;rw[hz₄] at hoe;cases hoe;simp at hce
  refine wpAny_setField_rec hz₄ (by simp) fun h₅ _ hs₅=>hE h₅ e (fun c o c1 c2 c3 c4 x=>hs₅.extBut _ _ c1 (hs₄ _ _ c4 (hs₃.extBut _ _ c2 (hs₂.extBut _ _ c3 (hs₁.extBut _ _ c1 x))))) ⟨oe,hs₅.extBut _ _ hez hoe,hce⟩
theorem Js{z TI TO i1 i2 l1 l2:Addr}{k1 k2:Nat}{xs ys:Array Value}{x y a b:Value}{Q:Option Value→Shared→Prop}(D:ZipApart z TI TO i1 i2 l1 l2)
  (hz:IsZip s.heap z TI TO .none) (hTI:IsPair s.heap TI (.ref i1) (.ref i2)) (hTO:IsPair s.heap TO a b)
  (h1:s.heap.IsTupleIter i1 l1 k1) (h2:s.heap.IsTupleIter i2 l2 k2) (hl1:s.heap.IsTuple l1 xs) (hl2:s.heap.IsTuple l2 ys) (hx:xs[k1]?=some x) (hy:ys[k2]?=some y)
  (hQ:∀ h',IsZip h' z TI TO (rawInt s.heap.objs.size)→IsPair h' TO x y→h'.IsTupleIter i1 l1 (k1+1)→h'.IsTupleIter i2 l2 (k2+1)→IsPair h' s.heap.objs.size x y→h'.objs.size=s.heap.objs.size+1 →
   (∀ c o,c≠z→c≠TO→c≠i1→c≠i2→s.heap.get? c=some o→h'.get? c=some o)→Q (some (.ref s.heap.objs.size)) { s with heap:=h' }) :
  wpAny (model prog w) A (pyNext (.ref z)) Q E s:=by
 have hT:s.TypeIs (.ref z) "zip" := ⟨_,hz,rfl⟩
 unfold pyNext;exact wpAny_bind (wpAny_attempt (wpAny_callSpecial?_slot (name:=Str.ofString "__next__") hT F.slot_zip_next
  (wpAny_call_entry F.slot_zip_next hT F.entry_zip_next (Jq D hz hTI hTO h1 h2 hl1 hl2 hx hy fun h' a1 a2 a3 a4 a5 a6 a7=>wpAny_pure (hQ h' a1 a2 a3 a4 a5 a6 a7)) (F.args_zip_next_1 _))))
theorem Jt{z TI TO i1 i2 l1 l2:Addr}{k1 k2:Nat}{xs ys:Array Value}{a b:Value}{Q:Option Value→Shared→Prop}(hh:A.handled=none)(D:ZipApart z TI TO i1 i2 l1 l2)
  (hz:IsZip s.heap z TI TO .none) (hTI:IsPair s.heap TI (.ref i1) (.ref i2)) (hTO:IsPair s.heap TO a b)
  (h1:s.heap.IsTupleIter i1 l1 k1) (h2:s.heap.IsTupleIter i2 l2 k2) (hl1:s.heap.IsTuple l1 xs) (hl2:s.heap.IsTuple l2 ys) (hend:xs[k1]?=none∨ys[k2]?=none)
  (hQ:∀ h',(∀ c o,c≠z→c≠TO→c≠i1→c≠i2→s.heap.get? c=some o→h'.get? c=some o)→Q none { s with heap:=h' }):wpAny (model prog w) A (pyNext (.ref z)) Q E s:=by
 have hT:s.TypeIs (.ref z) "zip" := ⟨_,hz,rfl⟩
 unfold pyNext;refine wpAny_bind (wpAny_attempt (wpAny_callSpecial?_slot (name:=Str.ofString "__next__") hT F.slot_zip_next
  (wpAny_call_entry F.slot_zip_next hT F.entry_zip_next (Jr hh D hz hTI hTO h1 h2 hl1 hl2 hend fun h' e hk he=>?_) (F.args_zip_next_1 _))))
 obtain⟨o,ho,hc⟩:=he;refine wpAny_bind (wpAny_isInstance (T := "StopIteration") (b:=true) ⟨o,ho,hc⟩ isSubtype_stop ?_);exact wpAny_pure (hQ _ hk)
abbrev zH1(h:Heap)(l1:Addr):Heap:=h.push { cls:=.type "tuple_iterator", data:=.fields #[.ref l1,.int 0 0] }
abbrev zH2(h:Heap)(l1 l2:Addr):Heap:=(zH1 h l1).push { cls:=.type "tuple_iterator", data:=.fields #[.ref l2,.int 0 0] }
abbrev zH3(h:Heap)(l1 l2:Addr):Heap:=(zH2 h l1 l2).push { cls:=.type "tuple", data:=.seq #[.ref h.objs.size,.ref (zH1 h l1).objs.size] }
abbrev zH4(h:Heap)(l1 l2:Addr):Heap:=(zH3 h l1 l2).push { cls:=.type "tuple", data:=.seq #[.none,.none] }
abbrev zH5(h:Heap)(l1 l2:Addr):Heap:=(zH4 h l1 l2).push { cls:=.type "zip", data:=.fields #[.none,.bool false,.bool false,.ref (zH2 h l1 l2).objs.size,.ref (zH3 h l1 l2).objs.size] }
theorem Ju(l1 l2:Addr)(xs ys:Array Value):Meets (Builtin.«zip.__new__» ⟨[.type "zip", .ref l1,.ref l2],[]⟩) (fun _ R s=>s.heap.IsTuple l1 xs∧s.heap.IsTuple l2 ys∧R (.ok (.ret (.ref (zH4 s.heap l1 l2).objs.size))) { s with heap:=zH5 s.heap l1 l2 }) :=
 .of_wp fun prog w A R s h=>by
  obtain⟨hp,g,d,tk,os⟩:=s;obtain⟨hl1,hl2,h⟩:=h;have hsub:=sub_zip;have hL1:Heap.IsTuple (Shared.heap ⟨hp,g,d,tk,os⟩) l1 xs:=hl1;have hL2:Heap.IsTuple (Shared.heap ⟨hp.push { cls:=.type "tuple_iterator", data:=.fields #[.ref l1,.int 0 0] },g,d,tk,os⟩) l2 ys:=Heap.IsTuple.push hl2 _
  wp_walk using wpAny_pyIter_tuple hL1,wpAny_pyIter_tuple hL2
  exact⟨_,rfl,h⟩
theorem Jv{l1 l2:Addr}{xs ys:Array Value}{Q:Value→Shared→Prop}(hl1:s.heap.IsTuple l1 xs)(hl2:s.heap.IsTuple l2 ys)
  (h:∀ h',IsZip h' (s.heap.objs.size+4) (s.heap.objs.size+2) (s.heap.objs.size+3) .none→IsPair h' (s.heap.objs.size+2) (.ref s.heap.objs.size) (.ref (s.heap.objs.size+1)) →
   IsPair h' (s.heap.objs.size+3) .none .none→h'.IsTupleIter s.heap.objs.size l1 0→h'.IsTupleIter (s.heap.objs.size+1) l2 0→h'.objs.size=s.heap.objs.size+5 →
   (∀ c o,s.heap.get? c=some o→h'.get? c=some o)→Q (.ref (s.heap.objs.size+4)) { s with heap:=h' }) :
  wpAny (model prog w) A (call (.type "zip") [.ref l1,.ref l2]) Q E s:=by
 refine callType_new F.called_zip (by decide) (F.typeCall_zip_2 _ _) (F.newCall_zip_2 _ _) (fun obj=>F.args_object_init_3 obj _ _) F.entry_zip_new (Ju l1 l2 xs ys) ⟨hl1,hl2,?_⟩;have z1:(zH1 s.heap l1).objs.size=s.heap.objs.size+1:=Heap.size_push ..;have z2:(zH2 s.heap l1 l2).objs.size=s.heap.objs.size+2:=by rw[Heap.size_push,z1]
 have z3:(zH3 s.heap l1 l2).objs.size=s.heap.objs.size+3:=by rw[Heap.size_push,z2]
 have z4:(zH4 s.heap l1 l2).objs.size=s.heap.objs.size+4:=by rw[Heap.size_push,z3]
 have z5:(zH5 s.heap l1 l2).objs.size=s.heap.objs.size+5:=by rw[Heap.size_push,z4]
 have g5:(zH5 s.heap l1 l2).get? (zH4 s.heap l1 l2).objs.size=some _:=Heap.get?_push_size _ rfl;have g4:(zH5 s.heap l1 l2).get? (zH3 s.heap l1 l2).objs.size=some _:=Heap.get?_push_of_some _ (Heap.get?_push_size _ rfl);have g3:(zH5 s.heap l1 l2).get? (zH2 s.heap l1 l2).objs.size=some _:=Heap.get?_push_of_some _ (Heap.get?_push_of_some _ (Heap.get?_push_size _ rfl));have g2:(zH5 s.heap l1 l2).get? (zH1 s.heap l1).objs.size=some _:=Heap.get?_push_of_some _ (Heap.get?_push_of_some _ (Heap.get?_push_of_some _ (Heap.get?_push_size _ rfl)));have g1:(zH5 s.heap l1 l2).get? s.heap.objs.size=some _:=Heap.get?_push_of_some _ (Heap.get?_push_of_some _ (Heap.get?_push_of_some _ (Heap.get?_push_of_some _ (Heap.get?_push_size _ rfl))));show _∧_;rw[z2,z3,z4] at g5;rw[z1,z2] at g3;rw[z3] at g4;rw[z1] at g2;rw[z4];exact⟨⟨_,g5,rfl⟩,h _ g5 g3 g4 ⟨_,g1,rfl,rfl⟩ ⟨_,g2,rfl,rfl⟩ z5 fun c o x=>Heap.get?_push_of_some _ (Heap.get?_push_of_some _ (Heap.get?_push_of_some _ (Heap.get?_push_of_some _ (Heap.get?_push_of_some _ x))))⟩
theorem Jw(l:Addr)(items:Array Value)(n:Nat)(dct:Option Addr)(sl:Array (Option Value)) :
  Meets (Builtin.«enumerate.__new__» ⟨[.type "enumerate", .ref l],[]⟩) (fun _ R s=>s.heap.get? l=some { cls:=.type "tuple", dict:=dct,data:=.seq items n,slots:=sl } ∧
   R (.ok (.ret (.ref (s.heap.push { cls:=.type "tuple_iterator", data:=.fields #[.ref l,.int 0 0] }).objs.size)))
    { s with heap:=(s.heap.push { cls:=.type "tuple_iterator", data:=.fields #[.ref l,.int 0 0] }).push { cls:=.type "enumerate", data:=.fields #[.none,.bool false,.ref s.heap.objs.size,rawInt 0,.none,.none] } }) :=
 .of_wp fun prog w A R s h=>by
  obtain⟨hp,g,d,tk,os⟩:=s;obtain⟨hl,h⟩:=h;have hsub:=sub_enumerate;have hL:Heap.IsTuple (Shared.heap ⟨hp,g,d,tk,os⟩) l items:=⟨_,hl,rfl,n,rfl⟩
  wp_walk using AutoSeq1.wpAny_loadPart' hl
  refine wpAny_stack_any fun st=>wpAny_pure ?_
  split
  ·rename_i c _ _ _ _ _;cases (c==Value.type "enumerate")
   ·wp_walk using AutoSeq1.wpAny_loadPart' hl,wpAny_pyIter_tuple hL
    exact⟨_,rfl,h⟩
   ·wp_walk using AutoSeq1.wpAny_loadPart' hl,wpAny_pyIter_tuple hL
    exact⟨_,rfl,h⟩
  ·wp_walk using AutoSeq1.wpAny_loadPart' hl,wpAny_pyIter_tuple hL
   exact⟨_,rfl,h⟩
theorem Jx{l:Addr}{items:Array Value}{Q:Value→Shared→Prop}(hL:s.heap.IsTuple l items)
  (h:∀ h',IsEnum h' (s.heap.objs.size+1) s.heap.objs.size 0 .none→h'.IsTupleIter s.heap.objs.size l 0→(∀ b o,s.heap.get? b=some o→h'.get? b=some o)→Q (.ref (s.heap.objs.size+1)) { s with heap:=h' }) :
  wpAny (model prog w) A (call (.type "enumerate") [.ref l]) Q E s:=by
 obtain⟨⟨c,dct,dt,sl⟩,hl,hc,n,hd⟩:=hL;replace hc:c=.type "tuple" := hc;replace hd:dt=.seq items n:=hd;subst hc hd;refine callType_new F.called_enumerate (by decide) (F.typeCall_enumerate_1 _) (F.newCall_enumerate_1 _) (fun obj=>F.args_object_init_2 obj _) F.entry_enumerate_new (Jw l items n dct sl) ⟨hl,?_⟩;have hz:(s.heap.push { cls:=.type "tuple_iterator", data:=.fields #[.ref l,.int 0 0] }).objs.size=s.heap.objs.size+1:=Heap.size_push ..;show _∧_;rw[hz];have he:IsEnum ((s.heap.push { cls:=.type "tuple_iterator", data:=.fields #[.ref l,.int 0 0] }).push { cls:=.type "enumerate", data:=.fields #[.none,.bool false,.ref s.heap.objs.size,rawInt 0,.none,.none] }) (s.heap.objs.size+1) s.heap.objs.size 0 .none:=by
  have:=Heap.get?_push_size (s.heap.push { cls:=.type "tuple_iterator", data:=.fields #[.ref l,.int 0 0] }) (o:={ cls:=.type "enumerate", data:=.fields #[.none,.bool false,.ref s.heap.objs.size,rawInt 0,.none,.none] }) rfl;rw[hz] at this;exact this
 exact⟨⟨_,he,rfl⟩,h _ he ⟨_,Heap.get?_push_of_some _ (Heap.get?_push_size _ rfl),rfl,rfl⟩ fun b o x=>Heap.get?_push_of_some _ (Heap.get?_push_of_some _ x)⟩
end
end Mine
namespace Mine
open PySem
section
variable {prog:Program} {w:World} {mg mb:Str→Option Value} {base:Heap} {n:Nat} {hd:Bool} {l:List Env} {sc:Scope} {σ:aA}
theorem xV:∀ (n:Nat) (a:Int) (i:Nat) (d:PyData),(bX a n)[i]?=some d→d=.int (a+i)
 |0,a,i,d,h=>by exact ns h
 |n+1,a,0,d,h=>by obtain rfl:=si h;rw[show a+((0:Nat):Int)=a from Int.add_zero a]
 |n+1,a,i+1,d,h=>by
  rw[xV n (a+1) i d h];congr 1;push_cast;exact uL
theorem xW:∀ (n:Nat) (a:Int),(bX a n).length=n:=by
 intro v0
 induction v0 with
 |zero =>
  intro _;exact rfl
 |succ n ih =>
  intro a;exact congrArg Nat.succ (ih (a+1))
theorem Jy{A:Around}{target:Expr}{s₀ s:Shared}{av:Addr→Prop}{r:Addr}{b:Int}{t u v:Tok}(k0:K l s₀ s)(hh:A.handled=none)(hr:IsRange s.heap r 0 b 1 t u v)(h4:b≤4096)
  {Q:Value→Shared→Prop} {E:Value→Shared→Prop} (hq:∀ it s',IterAt prog w A l target s₀ av it s' (bX 0 b.toNat)→Q it s') (hb:-10000≤b):wpAny (model prog w) A (pyIter (.ref r)) Q E s:=by
 have hsz:Builtin.Range.rangeSize 0 b 1=(b.toNat:Int):=by
  rw[rangeSize_one]
  split<;>lia
 have hsm:Builtin.Range.small 0 b 1=true:=by
  unfold Builtin.Range.small;rw[hsz];have f:∀ i:Int,-10000≤i→i≤10000→Builtin.Range.rangeFitsLong i=true:=fun i q1 q2=>by
   unfold Builtin.Range.rangeFitsLong;simp only[Bool.and_eq_true,decide_eq_true_eq];lia
  rw[f 0 (by lia) (by lia),f b hb (by lia),f 1 (by lia) (by lia),f _ (by lia) (by lia)];have:((1:Int) > 0):=by lia
  simp only[this,if_true,Bool.and_self,Bool.true_and];rw[f (b+(1 - 1)) (by exact Cy hb) (by exact Cz h4)];simp
 refine wpAny_pyIter_range hr hsm (hq _ _ (gG k0 rfl (Walks.range hh s.heap.objs.size 0 1 b.toNat) (by rw[xW]) (by rw[xW,sizeLine_eq];exact C0 h4) (fun x hx=>.inl (List.mem_singleton.mp hx)) (fun i h st=>⟨_,_,st,rfl,by decide⟩) (fun i v d hP hd=>?_) ?_))
 ·obtain⟨t,rfl⟩:=hP;rw[xV _ _ _ _ hd,Int.mul_one];exact .int _ _
 ·show(s.heap.push _).get? _=_;rw[cH _ _ rfl,hsz];simp
noncomputable def gH(prog:Program)(w:World)(mg mb:Str→Option Value)(base:Heap)(n:Nat)(hd:Bool)(l:List Env)(sc:Scope)(σ:aA)(target e:Expr)(r:R (List PyData)):Prop :=
 ∀ (A:Around) (env:Env) (s:Shared) (av:Addr→Prop),Room n hd l A→Inv0 prog w mg mb base l env sc σ av s →
  ∀ {β:Type} {k:List PyData→R β} {fin:R β} {Q:Value→Shared→Prop} {E:Value→Shared→Prop},Fin r k fin→(∀ it s' ds,IterAt prog w A l target s av it s' ds→k ds=fin→Q it s')→EH prog w mg l s av fin E →
   wpAny (model prog w) A (eval e env) (fun x s₁=>wpAny (model prog w) A (pyIter x) Q E s₁) E s
theorem Jz{rec:Expr→R V}{target e:Expr}(hh:hd=false)(h:aE prog w mg mb base n hd l sc σ e (rec e)):gH prog w mg mb base n hd l sc σ target e (gY rec e):=by
 intro A env s av hA I β k fin Q E hf hq he;refine h A env s av hA I (Fin.b hf) (fun v s₁ u k1 r h1=>?_) he;obtain⟨ds,e1,e2⟩:=Fin.p ⟨h1,hf.2⟩;exact Jo k1 (hA.handled hh) (r.rep I.gnd.avlt) e1 fun it s' x=>hq _ _ _ x e2
theorem J0{rec:Expr→R V}{target a:Expr}{p q:Pos}(hbad:∀ e,bad e=true→rec e=.no)(hh:hd=false)(hg:isG sc "range" = true)(h:aE prog w mg mb base n hd l sc σ a (rec a)) :
  gH prog w mg mb base n hd l sc σ target (.Call (.Name "range" p) [a] [] q) (lH rec a):=by
 intro A env s av hA I β k fin Q E hf hq he;refine PySem.Call_name1 (eK (eL (hbad a) (Fin.b hf).ne)) (dY I hg rfl (gF (.inr ⟨_,rfl⟩) (h A env s av hA I (Fin.b hf) (fun v s₁ u k1 r h1=>?_) he)));obtain⟨ds,e1,e2⟩:=Fin.p ⟨h1,hf.2⟩;refine pcs (f9 u) (fun hu=>?_) fun d hu=>?_
 ·try rewrite[hu]
  rw[hu] at e1;exact pno e1
 ·try rewrite[hu]
  rw[hu] at e1;cases qG hu;cases d with
  |int i =>
   obtain⟨t,rfl⟩:=(show Rep prog w s₁.heap av v (.int i) from r).int_inv;have e1:(if -4096≤i∧i≤4096 then P.ok (bX 0 i.toNat) else .no)=.ok ds:=e1
   by_cases hc:-4096≤i∧i≤4096
   ·rw[if_pos hc] at e1;obtain rfl:=pi e1;refine call_range_1 ?_;exact Jy (k1.trp (Kp.mk' fun b o e=>Heap.get?_push_of_some _ e)) (hA.handled hh) (cH _ _ rfl) hc.2 (fun it s' x=>hq _ _ _ x e2) (by exact C1 hc)
   ·rw[if_neg hc] at e1;exact pno e1
  |_=>exact pno e1
theorem qJ:∀ (l:List PyData) (a:Int) (i:Nat) (d:PyData),(cD a l)[i]?=some d→∃ x,l[i]?=some x∧d=.tuple [.int (a+i),x]
 | [],a,i,d,h=>by exact ns h
 |x::l,a,0,d,h=>by obtain rfl:=si h;exact⟨x,rfl,by rw[show a+((0:Nat):Int)=a from Int.add_zero a]⟩
 |x::l,a,i+1,d,h=>by
  obtain⟨y,h1,h2⟩:=qJ l (a+1) i d h;refine⟨y,h1,?_⟩;rw[h2,show a+1+(i:Int)=a+((i+1:Nat):Int) by push_cast;exact uL]
theorem iD:∀ (l:List PyData) (a:Int),(cD a l).length=l.length:=by
 intro v0
 induction v0 with
 |nil =>
  intro _;exact rfl
 |cons x l ih =>
  intro a;exact congrArg Nat.succ (ih (a+1))
theorem J1{A:Around}{elts:List Expr}{kk:Nat}{pos:Pos}{s₀ s:Shared}{h':Heap}{av:Addr→Prop}{ad:Addr}{vs:List Value}{m:List PyData}{nn:Nat}{old:Value}(k0:K l s₀ s)(hh:A.handled=none)(e:s.heap.get? ad=some { cls:=.type "list", data:=.seq vs.toArray nn })(h1:¬ av ad)
  (h3:vs.length=m.length) (h4:vs.length≤sizeLine) (h5:∀ (i:Nat) (v:Value) (d:PyData),vs[i]?=some v→m[i]?=some d→Rep prog w s.heap av v d)
  (he:IsEnum h' (s.heap.objs.size+1) s.heap.objs.size 0 old) (hit:h'.IsListIter s.heap.objs.size ad 0) (hk:∀ b o,s.heap.get? b=some o→h'.get? b=some o) :
  IterAt prog w A l (.Tuple elts kk pos) s₀ av (.ref (s.heap.objs.size+1)) { s with heap:=h' } (cD 0 m):=by
 have halt:=Heap.lt_size e;have hei:s.heap.objs.size+1≠s.heap.objs.size:=Nat.ne_of_gt (Nat.lt_succ_self _);have hle:ad≠s.heap.objs.size+1:=Nat.ne_of_lt (Nat.lt_succ_of_lt halt);have hli:ad≠s.heap.objs.size:=Nat.ne_of_lt halt;have hn:∀ b,(b=s.heap.objs.size+1∨b=s.heap.objs.size)→s.heap.get? b=none:=fun b hb=>hb.elim (fun x=>x▸Heap.get?_none_of_le (Nat.le_succ _)) fun x=>x▸bL _;refine⟨s,fun b=>b=s.heap.objs.size+1∨b=s.heap.objs.size,fun i h=>(∃ old,IsEnum h (s.heap.objs.size+1) s.heap.objs.size i old)∧h.IsListIter s.heap.objs.size ad i∧∀ b o,s.heap.get? b=some o→¬ av b→h.get? b=some o,k0,
  ⟨fun i h st b hb=>?_,fun i h g st hk' hk0=>?_,fun i d s₁ E Q hd st hQ=>?_,fun s₁ E Q st hQ=>?_,fun i s₁ Q E st hQ=>?_⟩,⟨⟨old,he⟩,hit,fun b o e _=>hk b o e⟩,fun b hb=>⟨hn b hb,?_⟩,Kp.mkh hk,by rw[iD,← h3];exact h4⟩
 ·obtain⟨⟨old,he⟩,⟨o,hit,_⟩,_⟩:=st;rcases hb with rfl | rfl
  ·exact⟨_,he⟩
  ·exact⟨o,hit⟩
 ·obtain⟨⟨old,he⟩,hit,hl⟩:=st;exact⟨⟨old,hk' _ _ (.inl rfl) he⟩,hit.at fun o x=>hk' _ o (.inr rfl) x,hk0⟩
 ·obtain⟨⟨old,he⟩,hit,hl⟩:=st;have hil:i < vs.length:=by have:=iC hd;rw[iD] at this;rw[h3];exact this
  have hL:s₁.heap.IsList ad vs.toArray:=⟨_,hl ad _ e h1,rfl,_,rfl⟩
  have hx:vs.toArray[i]?=some vs[i]:=by simp[hil]
  refine wpAny_pyNext_enum_item he hit hL hx hei fun h2 ho hit' hT hsz hk2=>?_;refine wpAny_letOwnedTupleGo_enum ho fun h3' he' hs'=>?_;have helt:s.heap.objs.size+1 < s₁.heap.objs.size:=Heap.lt_size he;have kept:∀ b o,¬ (b=s.heap.objs.size+1∨b=s.heap.objs.size)→s₁.heap.get? b=some o→h3'.get? b=some o:=fun b o hb e=>(hs'.2 b fun x=>hb (.inl x)).trans (hk2 b o (fun x=>hb (.inl x)) (fun x=>hb (.inr x)) e);have keep0:∀ b o,s.heap.get? b=some o→¬ av b→h3'.get? b=some o:=fun b o e hav=>kept b o (fun hb=>by rw[hn b hb] at e;exact ns e) (hl b o e hav);refine hQ (.ref s₁.heap.objs.size) h3' _ kept ⟨⟨_,by simpa using he'⟩,hit'.at fun o y=>(hs'.2 _ hei.symm).trans y,keep0⟩ fun avn hlive hsub=>?_;obtain⟨y,hy,rfl⟩:=qJ _ _ _ _ hd;refine Rep.tuple (vs:=[.int i s₁.toks,vs[i]]) (fun hx=>?_) ⟨_,(hs'.2 _ (Nat.ne_of_gt helt)).trans hT⟩ rfl (by rw[sizeLine_eq];exact Nat.le_of_ble_eq_true rfl) fun j v e e2 e3=>?_
  ·obtain⟨o,e⟩:=hlive _ hx;rw[bL] at e;exact ns e
  ·match j,e2,e3 with
   |0,e2,e3=>obtain rfl:=si e2;obtain rfl:=si e3;rw[Int.zero_add];exact .int _ _
   |1,e2,e3=>obtain rfl:=si e2;obtain rfl:=si e3;exact(h5 i _ _ (List.getElem?_eq_getElem hil) hy).mono (fun b o hb e=>keep0 b o e hb) hsub
 ·obtain⟨⟨old,he⟩,hit,hl⟩:=st;have hL:s₁.heap.IsList ad vs.toArray:=⟨_,hl ad _ e h1,rfl,_,rfl⟩
  rw[iD,← h3] at he hit;exact wpAny_pyNext_enum_end hh he hit hL (Array.getElem?_eq_none (by simp)) fun h'' hx=>hQ h'' s₁.toks fun b o hb y=>hx b o (fun e'=>hb (.inr e')) y
 ·obtain⟨⟨old,he⟩,_,_⟩:=st;exact wpAny_pyIter_enum he hQ
 ·rcases hb with rfl | rfl
  ·exact⟨_,he⟩
  ·obtain⟨o,eo,_⟩:=hit;exact⟨o,eo⟩
theorem J2{A:Around}{elts:List Expr}{kk:Nat}{pos:Pos}{s₀ s:Shared}{h':Heap}{av:Addr→Prop}{ad:Addr}{vs:List Value}{m:List PyData}{nn:Nat}{old:Value}(k0:K l s₀ s)(hh:A.handled=none)(e:s.heap.get? ad=some { cls:=.type "tuple", data:=.seq vs.toArray nn })(h1:¬ av ad)
  (h3:vs.length=m.length) (h4:vs.length≤sizeLine) (h5:∀ (i:Nat) (v:Value) (d:PyData),vs[i]?=some v→m[i]?=some d→Rep prog w s.heap av v d)
  (he:IsEnum h' (s.heap.objs.size+1) s.heap.objs.size 0 old) (hit:h'.IsTupleIter s.heap.objs.size ad 0) (hk:∀ b o,s.heap.get? b=some o→h'.get? b=some o) :
  IterAt prog w A l (.Tuple elts kk pos) s₀ av (.ref (s.heap.objs.size+1)) { s with heap:=h' } (cD 0 m):=by
 have halt:=Heap.lt_size e;have hei:s.heap.objs.size+1≠s.heap.objs.size:=Nat.ne_of_gt (Nat.lt_succ_self _);have hli:ad≠s.heap.objs.size:=Nat.ne_of_lt halt;have hle:ad≠s.heap.objs.size+1:=Nat.ne_of_lt (Nat.lt_succ_of_lt halt);have hef:s.heap.objs.size+1∉[s.heap.objs.size,ad]:=fun x=>by
  rcases List.mem_cons.mp x with x | x
  ·exact hei x
  ·exact hle (List.mem_singleton.mp x).symm
 have DD:=Jp (prog:=prog) (w:=w) (A:=A.in1) hh s.heap.objs.size ad hli vs.toArray;have hn:∀ b,(b=s.heap.objs.size+1∨b=s.heap.objs.size)→s.heap.get? b=none:=fun b hb=>hb.elim (fun x=>x▸Heap.get?_none_of_le (Nat.le_succ _)) fun x=>x▸bL _;refine⟨s,fun b=>b=s.heap.objs.size+1∨b=s.heap.objs.size,fun i h=>(∃ old,IsEnum h (s.heap.objs.size+1) s.heap.objs.size i old)∧h.IsTupleIter s.heap.objs.size ad i∧∀ b o,s.heap.get? b=some o→¬ av b→h.get? b=some o,k0,
  ⟨fun i h st b hb=>?_,fun i h g st hk' hk0=>?_,fun i d s₁ E Q hd st hQ=>?_,fun s₁ E Q st hQ=>?_,fun i s₁ Q E st hQ=>?_⟩,⟨⟨old,he⟩,hit,fun b o e _=>hk b o e⟩,fun b hb=>⟨hn b hb,?_⟩,Kp.mkh hk,by rw[iD,← h3];exact h4⟩
 ·obtain⟨⟨old,he⟩,⟨o,hit,_⟩,_⟩:=st;rcases hb with rfl | rfl
  ·exact⟨_,he⟩
  ·exact⟨o,hit⟩
 ·obtain⟨⟨old,he⟩,⟨o,hit,r⟩,hl⟩:=st;exact⟨⟨old,hk' _ _ (.inl rfl) he⟩,⟨o,hk' _ o (.inr rfl) hit,r⟩,hk0⟩
 ·obtain⟨⟨old,he⟩,hit,hl⟩:=st;have hil:i < vs.length:=by have:=iC hd;rw[iD] at this;rw[h3];exact this
  have hL:s₁.heap.IsTuple ad vs.toArray:=⟨_,hl ad _ e h1,rfl,_,rfl⟩
  refine wpAny_pyNext_enum_itemD DD he ⟨hit,hL⟩ (by simpa using hil) hei hef fun x h2 tk hx ho hst hT hsz hk2=>?_;refine wpAny_letOwnedTupleGo_enum ho fun h3' he' hs'=>?_;have helt:s.heap.objs.size+1 < s₁.heap.objs.size:=Heap.lt_size he;have kept:∀ b o,¬ (b=s.heap.objs.size+1∨b=s.heap.objs.size)→s₁.heap.get? b=some o→h3'.get? b=some o:=fun b o hb e=>(hs'.2 b fun x=>hb (.inl x)).trans (hk2 b o (fun x=>hb (.inl x)) (fun x=>hb (.inr x)) e);have keep0:∀ b o,s.heap.get? b=some o→¬ av b→h3'.get? b=some o:=fun b o e hav=>kept b o (fun hb=>by rw[hn b hb] at e;exact ns e) (hl b o e hav);refine hQ (.ref s₁.heap.objs.size) h3' _ kept ⟨⟨_,by simpa using he'⟩,hst.1.extBut hs'.extBut hei.symm,keep0⟩ fun avn hlive hsub=>?_;obtain⟨y,hy,rfl⟩:=qJ _ _ _ _ hd;have hx:vs[i]?=some x:=by simpa using hx
  refine Rep.tuple (vs:=[.int i tk,x]) (fun hx=>?_) ⟨_,(hs'.2 _ (Nat.ne_of_gt helt)).trans hT⟩ rfl (by rw[sizeLine_eq];exact Nat.le_of_ble_eq_true rfl) fun j v e e2 e3=>?_
  ·obtain⟨o,e⟩:=hlive _ hx;rw[bL] at e;exact ns e
  ·match j,e2,e3 with
   |0,e2,e3=>obtain rfl:=si e2;obtain rfl:=si e3;rw[Int.zero_add];exact .int _ _
   |1,e2,e3=>obtain rfl:=si e2;obtain rfl:=si e3;exact(h5 i _ _ hx hy).mono (fun b o hb e=>keep0 b o e hb) hsub
 ·obtain⟨⟨old,he⟩,hit,hl⟩:=st;have hL:s₁.heap.IsTuple ad vs.toArray:=⟨_,hl ad _ e h1,rfl,_,rfl⟩
  rw[iD,← h3] at he hit;exact wpAny_pyNext_enum_endD DD he ⟨by simpa using hit,hL⟩ fun h'' hx=>hQ h'' s₁.toks fun b o hb y=>hx b o (fun e'=>hb (.inr e')) y
 ·obtain⟨⟨old,he⟩,_,_⟩:=st;exact wpAny_pyIter_enum he hQ
 ·rcases hb with rfl | rfl
  ·exact⟨_,he⟩
  ·obtain⟨o,eo,_⟩:=hit;exact⟨o,eo⟩
theorem J3{rec:Expr→R V}{target a:Expr}{p q:Pos}(hbad:∀ e,bad e=true→rec e=.no)(hh:hd=false)(hg:isG sc "enumerate" = true)(ht:fJ target=true)(h:aE prog w mg mb base n hd l sc σ a (rec a)) :
  gH prog w mg mb base n hd l sc σ target (.Call (.Name "enumerate" p) [a] [] q) (lJ rec a):=by
 intro A env s av hA I β k fin Q E hf hq he;refine PySem.Call_name1 (eK (eL (hbad a) (Fin.b hf).ne)) (dY I hg rfl (gF (.inr ⟨_,rfl⟩) (h A env s av hA I (Fin.b hf) (fun v s₁ u k1 r h1=>?_) he)));obtain⟨ds,e1,e2⟩:=Fin.p ⟨h1,hf.2⟩;have rd:=r.rep I.gnd.avlt;unfold fJ at ht;generalize hv:vw target=tv at ht;cases tv with
 |tup elts =>
  obtain⟨kk,pos,rfl⟩:=cE hv;generalize dOf u=d at rd e1;cases d with
  |list m =>
   obtain rfl:=pi e1;obtain⟨ad,vs,rfl,h1,⟨nn,e⟩,h3,h4,h5⟩:=rd.list_inv;refine call_enumerate_list ⟨_,e,rfl,_,rfl⟩ fun h' he' hit hsz hk=>?_;exact wpAny_pyIter_enum he' (hq _ _ _ (J1 k1 (hA.handled hh) e h1 h3 h4 h5 he' hit hk) e2)
  |tuple m =>
   obtain rfl:=pi e1;obtain⟨ad,vs,rfl,h1,⟨nn,e⟩,h3,h4,h5⟩:=rd.tuple_inv;refine Jx ⟨_,e,rfl,_,rfl⟩ fun h' he' hit hk=>?_;exact wpAny_pyIter_enum he' (hq _ _ _ (J2 k1 (hA.handled hh) e h1 h3 h4 h5 he' hit hk) e2)
  |_=>exact pno e1
 |_=>exact bft ht
theorem J4:∀ (l m:List PyData) (i:Nat) (d:PyData),(dD l m)[i]?=some d→∃ x y,l[i]?=some x∧m[i]?=some y∧d=.tuple [x,y]:=by
 intro l m i d h;unfold dD at h;rw[List.getElem?_zipWith] at h
 split at h
 ·obtain rfl:=si h;rename_i x y e1 e2;exact⟨x,y,e1,e2,rfl⟩
 ·exact ns h
theorem J5{N a b:Addr}(h1:a < N)(h2:b < N):ZipApart (N+4) (N+2) (N+3) N (N+1) a b where
 TIz:=by lia
 TOz:=by lia
 i1z:=by lia
 i2z:=by lia
 TITO:=by lia
 TIi1:=by lia
 TIi2:=by lia
 TOi1:=by lia
 TOi2:=by lia
 i12:=by lia
 l1z:=by lia
 l1TO:=by lia
 l1i1:=by lia
 l1i2:=by lia
 l2z:=by lia
 l2TO:=by lia
 l2i1:=by lia
 l2i2:=by lia
theorem J6{A:Around}{elts:List Expr}{kk:Nat}{pos:Pos}{s₀ s:Shared}{h':Heap}{av:Addr→Prop}{ad bd:Addr}{vs us:List Value}{m m':List PyData}{nn nn':Nat}(k0:K l s₀ s)(hh:A.handled=none)(e:s.heap.get? ad=some { cls:=.type "tuple", data:=.seq vs.toArray nn })(h1:¬ av ad)
  (h3:vs.length=m.length) (h4:vs.length≤sizeLine) (h5:∀ (i:Nat) (v:Value) (d:PyData),vs[i]?=some v→m[i]?=some d→Rep prog w s.heap av v d)
  (e':s.heap.get? bd=some { cls:=.type "tuple", data:=.seq us.toArray nn' }) (h1':¬ av bd) (h3':us.length=m'.length) (h5':∀ (i:Nat) (v:Value) (d:PyData),us[i]?=some v→m'[i]?=some d→Rep prog w s.heap av v d)
  (hz:IsZip h' (s.heap.objs.size+4) (s.heap.objs.size+2) (s.heap.objs.size+3) .none) (hTI:IsPair h' (s.heap.objs.size+2) (.ref s.heap.objs.size) (.ref (s.heap.objs.size+1))) (hTO:IsPair h' (s.heap.objs.size+3) .none .none)
  (hi1:h'.IsTupleIter s.heap.objs.size ad 0) (hi2:h'.IsTupleIter (s.heap.objs.size+1) bd 0) (hk:∀ b o,s.heap.get? b=some o→h'.get? b=some o) :
  IterAt prog w A l (.Tuple elts kk pos) s₀ av (.ref (s.heap.objs.size+4)) { s with heap:=h' } (dD m m'):=by
 have D:=J5 (Heap.lt_size e) (Heap.lt_size e');have hn:∀ b,s.heap.objs.size≤b→s.heap.get? b=none:=fun b hb=>Heap.get?_none_of_le hb;have at':∀ {h g:Heap} {i l k},(∀ o,h.get? i=some o→g.get? i=some o)→h.IsTupleIter i l k→g.IsTupleIter i l k:=fun hi st=>by obtain⟨o,e,r⟩:=st;exact⟨o,hi o e,r⟩
 have zl:(dD m m').length=min m.length m'.length:=List.length_zipWith;generalize hN:s.heap.objs.size=N at *;refine⟨s,fun b=>N≤b∧b≤N+4,fun i h=>IsZip h (N+4) (N+2) (N+3) .none∧IsPair h (N+2) (.ref N) (.ref (N+1))∧(∃ a b,IsPair h (N+3) a b)∧h.IsTupleIter N ad i∧h.IsTupleIter (N+1) bd i∧∀ b o,s.heap.get? b=some o→¬ av b→h.get? b=some o,k0,
  ⟨fun i h st b hb=>?_,fun i h g st hk' hk0=>?_,fun i d s₁ E Q hd st hQ=>?_,fun s₁ E Q st hQ=>?_,fun i s₁ Q E st hQ=>?_⟩,⟨hz,hTI,⟨_,_,hTO⟩,hi1,hi2,fun b o e _=>hk b o e⟩,fun b hb=>⟨hn b hb.1,?_⟩,Kp.mkh hk,by rw[zl,← h3];exact Nat.le_trans (Nat.min_le_left _ _) h4⟩
 ·obtain⟨a1,a2,⟨x,y,a3⟩,⟨o4,a4,_⟩,⟨o5,a5,_⟩,_⟩:=st;rcases(show b=N∨b=N+1∨b=N+2∨b=N+3∨b=N+4 by have:=hb.1;have:=hb.2;lia) with rfl | rfl | rfl | rfl | rfl
  ·exact⟨_,a4⟩
  ·exact⟨_,a5⟩
  ·exact⟨_,a2⟩
  ·exact⟨_,a3⟩
  ·exact⟨_,a1⟩
 ·obtain⟨a1,a2,⟨x,y,a3⟩,a4,a5,_⟩:=st;exact⟨hk' _ _ ⟨by lia,by lia⟩ a1,hk' _ _ ⟨by lia,by lia⟩ a2,⟨x,y,hk' _ _ ⟨by lia,by lia⟩ a3⟩,at' (fun o q=>hk' _ o ⟨by lia,by lia⟩ q) a4,at' (fun o q=>hk' _ o ⟨by lia,by lia⟩ q) a5,hk0⟩
 ·obtain⟨a1,a2,⟨x,y,a3⟩,a4,a5,hl⟩:=st;obtain⟨dx,dy,g1,g2,rfl⟩:=J4 _ _ _ _ hd;have hx1:i < vs.length:=by rw[h3];exact iC g1
  have hx2:i < us.length:=by rw[h3'];exact iC g2
  have hL1:s₁.heap.IsTuple ad vs.toArray:=⟨_,hl ad _ e h1,rfl,_,rfl⟩
  have hL2:s₁.heap.IsTuple bd us.toArray:=⟨_,hl bd _ e' h1',rfl,_,rfl⟩
  refine Js D a1 a2 a3 a4 a5 hL1 hL2 (x:=vs[i]) (y:=us[i]) (by simp[hx1]) (by simp[hx2]) fun h2 b1 b2 b3 b4 b5 b6 bk=>?_;refine wpAny_letOwnedTupleGo_zip b1 fun h3 c1 cs=>?_;have hlt:N+4 < s₁.heap.objs.size:=Heap.lt_size a1;have kept:∀ b o,¬ (N≤b∧b≤N+4)→s₁.heap.get? b=some o→h3.get? b=some o:=fun b o hb e=>(cs.2 b fun x=>hb ⟨by lia,by lia⟩).trans (bk b o (fun x=>hb ⟨by lia,by lia⟩) (fun x=>hb ⟨by lia,by lia⟩) (fun x=>hb ⟨by lia,by lia⟩) (fun x=>hb ⟨by lia,by lia⟩) e);have keep0:∀ b o,s.heap.get? b=some o→¬ av b→h3.get? b=some o:=fun b o e hav=>kept b o (fun hb=>by rw[hn b hb.1] at e;exact ns e) (hl b o e hav);refine hQ (.ref s₁.heap.objs.size) h3 _ kept ⟨c1,cs.extBut _ _ D.TIz (bk _ _ D.TIz D.TITO D.TIi1 D.TIi2 a2),⟨_,_,cs.extBut _ _ D.TOz b2⟩,at' (fun o q=>cs.extBut _ _ D.i1z q) b3,at' (fun o q=>cs.extBut _ _ D.i2z q) b4,keep0⟩ fun avn hlive hsub=>?_;refine Rep.tuple (vs:=[vs[i],us[i]]) (fun hx=>?_) ⟨_,cs.extBut _ _ (Nat.ne_of_gt hlt) b5⟩ rfl (by rw[sizeLine_eq];exact Nat.le_of_ble_eq_true rfl) fun j v e e2 e3=>?_
  ·obtain⟨o,e⟩:=hlive _ hx;rw[bL] at e;exact ns e
  ·match j,e2,e3 with
   |0,e2,e3=>obtain rfl:=si e2;obtain rfl:=si e3;exact(h5 i _ _ (List.getElem?_eq_getElem hx1) g1).mono (fun b o hb e=>keep0 b o e hb) hsub
   |1,e2,e3=>obtain rfl:=si e2;obtain rfl:=si e3;exact(h5' i _ _ (List.getElem?_eq_getElem hx2) g2).mono (fun b o hb e=>keep0 b o e hb) hsub
 ·obtain⟨a1,a2,⟨x,y,a3⟩,a4,a5,hl⟩:=st;have hL1:s₁.heap.IsTuple ad vs.toArray:=⟨_,hl ad _ e h1,rfl,_,rfl⟩
  have hL2:s₁.heap.IsTuple bd us.toArray:=⟨_,hl bd _ e' h1',rfl,_,rfl⟩
  have hend:vs.toArray[(dD m m').length]?=none∨us.toArray[(dD m m').length]?=none:=by
   rw[zl];rcases Nat.le_total m.length m'.length with h | h
   ·exact .inl (by rw[Nat.min_eq_left h];exact Array.getElem?_eq_none (by simp[h3]))
   ·exact .inr (by rw[Nat.min_eq_right h];exact Array.getElem?_eq_none (by simp[h3']))
  exact Jt hh D a1 a2 a3 a4 a5 hL1 hL2 hend fun h'' hx=>hQ h'' s₁.toks fun b o hb y=>hx b o (fun x=>hb ⟨by lia,by lia⟩) (fun x=>hb ⟨by lia,by lia⟩) (fun x=>hb ⟨by lia,by lia⟩) (fun x=>hb ⟨by lia,by lia⟩) y
 ·exact wpAny_pyIter_zip st.1 hQ
 ·rcases(show b=N∨b=N+1∨b=N+2∨b=N+3∨b=N+4 by have:=hb.1;have:=hb.2;lia) with rfl | rfl | rfl | rfl | rfl
  ·obtain⟨o,eo,_⟩:=hi1;exact⟨o,eo⟩
  ·obtain⟨o,eo,_⟩:=hi2;exact⟨o,eo⟩
  ·exact⟨_,hTI⟩
  ·exact⟨_,hTO⟩
  ·exact⟨_,hz⟩
theorem J7{M:Model}{A:Around}{T:String}{env:Env}{as:List Expr}{pos:Pos}{Q:Value→Shared→Prop}{E:Value→Shared→Prop}{s:Shared}(hs:as.any bad=false)
  (h:wpAny M A (spliced (backTo pos (starEach as env))) (fun vs s₁=>wpAny M A (call (.type T) vs) Q E s₁) E s):wpAny M A (callWith pos (.type T) [] (backTo pos (starEach as env)) []) Q E s :=
 PySem.callWith_type (mT hs) (mS (Q:=fun a s₁=>wpAny M A (call (.type T) ([]++a.pos) a.kw) Q E s₁) hs h)
theorem J8{rec:Expr→R V}{target:Expr}{as:List Expr}{p q:Pos}(hbad:∀ e,bad e=true→rec e=.no)(hh:hd=false)(hg:isG sc "zip" = true)(h:∀ e∈as,aE prog w mg mb base n hd l sc σ e (rec e)) :
  gH prog w mg mb base n hd l sc σ target (.Call (.Name "zip" p) as [] q) (pB rec target as):=by
 intro A env s av hA I β k fin Q E hf hq he;obtain⟨⟨ht,hns⟩,hf⟩:=Fin.ite hf;refine wpAny_Call_NameR (dY I hg rfl (J7 hns (gC hbad hA h I hf.b (fun vs s₁ us k1 r1 r2 h1=>?_) he)));obtain⟨ds,e1,e2⟩:=Fin.p ⟨h1,hf.2⟩;have r:RL prog w s₁.heap av vs (bJ us):=⟨r1,r2⟩
 unfold fJ at ht;generalize hv:vw target=tv at ht;cases tv with
 |tup elts =>
  obtain⟨kk,pos,rfl⟩:=cE hv;cases us with
  |nil=>exact pno e1
  |cons a us =>
   cases us with
   |nil=>exact pno e1
   |cons b us =>
    cases us with
    |cons=>exact pno e1
    |nil =>
     obtain⟨v1,vs,rfl,ra,r⟩:=r.cons;obtain⟨v2,vs,rfl,rb,r⟩:=r.cons;obtain rfl:=r.nil;replace e1:u7 (dOf a) (dOf b)=.ok ds:=e1;generalize dOf a=da at ra e1;generalize dOf b=db at rb e1;cases da with
     |tuple m =>
      cases db with
      |tuple m' =>
       obtain rfl:=pi e1;obtain⟨ad,vs,rfl,h1,⟨nn,e⟩,h3,h4,h5⟩:=ra.tuple_inv;obtain⟨bd,us,rfl,h1',⟨nn',e'⟩,h3',h4',h5'⟩:=rb.tuple_inv;refine Jv ⟨_,e,rfl,_,rfl⟩ ⟨_,e',rfl,_,rfl⟩ fun h' z1 z2 z3 z4 z5 _ hk=>?_;exact wpAny_pyIter_zip z1 (hq _ _ _ (J6 k1 (hA.handled hh) e h1 h3 h4 h5 e' h1' h3' h5' z1 z2 z3 z4 z5 hk) e2)
      |_=>exact pno e1
     |_=>exact pno e1
 |_=>exact bft ht
theorem J9{rec:Expr→R V}{target a:Expr}{p q:Pos}(hbad:∀ e,bad e=true→rec e=.no)(hh:hd=false)(hg:isG sc "reversed" = true)(h:aE prog w mg mb base n hd l sc σ a (rec a)) :
  gH prog w mg mb base n hd l sc σ target (.Call (.Name "reversed" p) [a] [] q) (lI rec a):=by
 intro A env s av hA I β k fin Q E hf hq he;refine PySem.Call_name1 (eK (eL (hbad a) (Fin.b hf).ne)) (dY I hg rfl (gF (.inr ⟨_,rfl⟩) (h A env s av hA I (Fin.b hf) (fun v s₁ u k1 r h1=>?_) he)));obtain⟨ds,e1,e2⟩:=Fin.p ⟨h1,hf.2⟩;have rd:=r.rep I.gnd.avlt;generalize dOf u=d at rd e1;cases d with
 |list m =>
  obtain rfl:=pi e1;obtain⟨ad,vs,rfl,h1,⟨nn,e⟩,h3,h4,h5⟩:=rd.list_inv;have hlt:=Heap.lt_size e;have W:=Walks.listRev (prog:=prog) (w:=w) (hA.handled hh) s₁.heap.objs.size ad (Nat.ne_of_lt hlt) vs.toArray;have hst:0≤vs.toArray.size∧(s₁.heap.push (revObj ad ((vs.toArray.size:Int) - 1))).IsRevIter s₁.heap.objs.size ad ((vs.toArray.size:Int) - 1 - ((0:Nat):Int))∧(s₁.heap.push (revObj ad ((vs.toArray.size:Int) - 1))).IsList ad vs.toArray :=
   ⟨Nat.zero_le _,⟨_,cH _ _ rfl,rfl,by simp[revObj]⟩,⟨_,Heap.get?_push_of_some _ e,rfl,nn,rfl⟩⟩
  refine call_reversed_list ⟨_,e,rfl,nn,rfl⟩ (wpAny_pyIter_revIter hst.2.1 (hq _ _ _ (gG (o:=revObj ad ((vs.toArray.size:Int) - 1)) k1 rfl W (by simp[h3]) (by rw[List.length_reverse,← h3];exact h4) (fp2 e h1) (fun i h st=>let ⟨_,⟨o,ho,hc,_⟩,_⟩:=st;⟨o,_,ho,hc,by decide⟩) (fun i v d hP hd'=>?_) hst) e2));have hi:i < m.length:=by simpa using iC hd'
  rw[List.getElem?_reverse hi] at hd';exact h5 (m.length - 1 - i) v d (by simpa[h3] using hP) hd'
 |_=>exact pno e1
theorem xX{rec:Expr→R V}(hbad:∀ e,bad e=true→rec e=.no){target e:Expr}(h:aE prog w mg mb base n hd l sc σ e (rec e))
  (hsub:∀ f as kws q,e=.Call f as kws q→∀ a∈as,aE prog w mg mb base n hd l sc σ a (rec a)):gH prog w mg mb base n hd l sc σ target e (eS rec hd sc target e):=by
 unfold eS;cases hd with
 |true=>exact fun A env s av hA I _ _ _ _ _ hf _ _=>hf.no.elim
 |false =>
  rw[if_neg Bool.false_ne_true];have P:=Jz (target:=target) rfl h;refine ocs (gZ e) (fun hc=>?_) fun c hc=>?_
  ·try rewrite[hc]
   exact P
  ·try rewrite[hc]
   obtain⟨x,as⟩:=c;obtain⟨p,q,rfl⟩:=wA hc;show gH prog w mg mb base n false l sc σ target _ (if x = "range" ∨ x = "enumerate" ∨ x = "reversed" ∨ x = "zip" then _ else gY rec _)
   by_cases hx:x = "range" ∨ x = "enumerate" ∨ x = "reversed" ∨ x = "zip"
   ·rw[if_pos hx];intro A env s av hA I β k fin Q E hf hq he;obtain⟨hg,hf1⟩:=Fin.ite hf;clear hf
    by_cases h0:x = "zip"
    ·subst h0;exact J8 hbad rfl hg (fun a ha=>hsub _ _ _ _ rfl a ha) A env s av hA I ((if_pos rfl:_=pB rec target as)▸hf1) hq he
    replace hf1:Fin (match as with
     | []=>.no
     |a::r=>match r with
      | []=>if x = "range" then lH rec a else if x = "enumerate" ∧ fJ target=true then lJ rec a else if x = "reversed" then lI rec a else .no
      |_::_=>.no) k fin:=by
     have e:=hf1.1;rw[if_neg h0] at e;exact⟨e,hf1.2⟩
    cases as with
    |nil=>exact hf1.no.elim
    |cons a r =>
     cases r with
     |cons=>exact hf1.no.elim
     |nil =>
      have ha:=hsub _ _ _ _ rfl a List.mem_cons_self;replace hf1:Fin (if x = "range" then lH rec a else if x = "enumerate" ∧ fJ target=true then lJ rec a else if x = "reversed" then lI rec a else .no) k fin:=hf1
      by_cases h1:x = "range"
      ·rw[if_pos h1] at hf1;subst h1;exact J0 hbad rfl hg ha A env s av hA I hf1 hq he
      rw[if_neg h1] at hf1
      by_cases h2:x = "enumerate" ∧ fJ target=true
      ·rw[if_pos h2] at hf1;obtain⟨rfl,h2⟩:=h2;exact J3 hbad rfl hg h2 ha A env s av hA I hf1 hq he
      rw[if_neg h2] at hf1
      by_cases h3:x = "reversed"
      ·rw[if_pos h3] at hf1;subst h3;exact J9 hbad rfl hg ha A env s av hA I hf1 hq he
      ·rw[if_neg h3] at hf1;exact hf1.no.elim
   ·rw[if_neg hx];exact P
end
end Mine
namespace Mine
open PySem
section
variable {prog:Program} {w:World} {mg mb:Str→Option Value} {base:Heap} {n:Nat} {hd:Bool} {l:List Env}
theorem Ka{env:Env}:∀ (names:List (Str×NameKind)) (acc:List (Str×Addr)),(∀ p∈names,p.2=.free→∃ c,env.cells.lookup p.1=some c)→(∀ q∈acc,env.cells.lookup q.1=some q.2) →
  ∃ cl,(forIn names acc (fun (x:Str×NameKind) (cs:List (Str×Addr))=>if (x.2==NameKind.free)=true then (do let c ← cellOf env x.1;pure (ForInStep.yield ((x.1,c)::cs))) else pure (ForInStep.yield cs)):Sem (List (Str×Addr)))=pure cl ∧
   (∀ q∈cl,env.cells.lookup q.1=some q.2)∧(∀ q∈acc,q∈cl)∧∀ p∈names,p.2=.free→∃ c,(p.1,c)∈cl:=by
 intro v0
 induction v0 with
 |nil =>
  intro acc _ ha;exact⟨acc,by simp,ha,fun _ h=>h,fun _ h=>by simp at h⟩
 |cons pp r ih =>
  obtain⟨x,k⟩:=pp;intro acc hn ha;rw[List.forIn_cons]
  by_cases hk:k=.free
  ·subst hk;obtain⟨c,hc⟩:=hn (x,.free) (by simp) rfl;obtain⟨cl,h1,h2,h3,h4⟩:=ih ((x,c)::acc) (fun p hp=>hn p (List.mem_cons_of_mem _ hp)) (fun q hq=>by
    rcases List.mem_cons.mp hq with rfl | hq
    ·exact hc
    ·exact ha q hq)
   refine⟨cl,?_,h2,fun q hq=>h3 q (List.mem_cons_of_mem _ hq),fun p hp hpk=>?_⟩
   ·have e:cellOf env x=pure c:=by unfold cellOf;rw[hc]
    simp only[e];exact h1
   ·rcases List.mem_cons.mp hp with rfl | hp
    ·exact⟨c,h3 _ (by simp)⟩
    ·exact h4 p hp hpk
  ·obtain⟨cl,h1,h2,h3,h4⟩:=ih acc (fun p hp=>hn p (List.mem_cons_of_mem _ hp)) ha;refine⟨cl,?_,h2,h3,fun p hp hpk=>?_⟩
   ·have e:(k==NameKind.free)=false:=beq_eq_false_iff_ne.mpr hk;simp only[e];exact h1
   ·rcases List.mem_cons.mp hp with rfl | hp
    ·exact absurd hpk hk
    ·exact h4 p hp hpk
theorem xY{α:Type}:∀ {l:List (Str×α)} {x:Str} {c:α},(x,c)∈l→∃ c',l.lookup x=some c'∧(x,c')∈l
 | (y,d)::r,x,c,h=>by
  by_cases hxy:x=y
  ·subst hxy;exact⟨d,by simp[List.lookup],by simp⟩
  ·rcases List.mem_cons.mp h with h | h
   ·exact absurd (congrArg Prod.fst h) hxy
   ·obtain⟨c',h1,h2⟩:=xY h;have:(x==y)=false:=beq_eq_false_iff_ne.mpr hxy;exact⟨c',by simp only[List.lookup,this];exact h1,List.mem_cons_of_mem _ h2⟩
theorem eM{α:Type}:∀ {l:List (Str×α)} {x:Str} {c:α},l.lookup x=some c→(x,c)∈l
 | (y,d)::r,x,c,h=>by
  by_cases hxy:x=y
  ·subst hxy;simp[List.lookup] at h;simp[h]
  ·have:(x==y)=false:=beq_eq_false_iff_ne.mpr hxy;simp only[List.lookup,this] at h;exact List.mem_cons_of_mem _ (eM h)
theorem Kb{env:Env}{scope:Scope}(h:∀ p∈scope.names,p.2=.free→∃ c,env.cells.lookup p.1=some c):∃ cl,closureFor scope env=pure cl∧∀ x c,(x,NameKind.free)∈scope.names→env.cells.lookup x=some c→cl.lookup x=some c:=by
 obtain⟨cl,h1,h2,_,h4⟩:=Ka (env:=env) scope.names [] h (by simp);refine⟨cl,?_,fun x c hx hc=>?_⟩
 ·unfold closureFor;show(forIn scope.names [] _:Sem _) >>= _=_;have:(forIn scope.names [] (fun (x:Str×NameKind) (cs:List (Str×Addr))=>if (x.2==NameKind.free)=true then (do let c ← cellOf env x.1;pure (ForInStep.yield ((x.1,c)::cs))) else pure (ForInStep.yield cs)):Sem (List (Str×Addr)))=pure cl:=h1;rw[show(forIn scope.names [] (fun (x:Str×NameKind) (cs:List (Str×Addr))=>_):Sem (List (Str×Addr)))=pure cl from this];rfl
 ·obtain⟨c',hc'⟩:=h4 (x,.free) hx rfl;obtain⟨c'',e1,e2⟩:=xY hc';have:=h2 _ e2;rw[hc] at this;rw[e1];exact this.symm▸rfl
noncomputable def CpE(prog:Program)(w:World)(A:Around)(acc:Value)(G:Shared→Prop)(X:Value→Shared→Prop):Value→Shared→Prop:=fun x s=>wpAny (model prog w) A (call (.builtin "list.append") [acc,x]) (fun _ s=>G s) X s
noncomputable def CpT(prog:Program)(w:World)(A:Around)(elt:Expr)(env:Env)(acc:Value)(G:Shared→Prop)(X:Value→Shared→Prop):Bool→Shared→Prop:=fun ok s=>if ok=true then wpAny (model prog w) A (eval elt env) (CpE prog w A acc G X) X s else G s
noncomputable def CpA(prog:Program)(w:World)(A:Around)(ifs:List Expr)(elt:Expr)(env:Env)(acc:Value)(G:Shared→Prop)(X:Value→Shared→Prop):Unit→Shared→Prop:=fun _ s =>
 wpAny (model prog w) A (forIn ifs true fun c r=>if r=true then do let ok ← isTrue c env (eval c env);pure (ForInStep.yield ok) else pure (ForInStep.yield r)) (CpT prog w A elt env acc G X) X s
noncomputable def CpN(prog:Program)(w:World)(A:Around)(R:Result→Shared→Prop)(target:Expr)(it:Value)(ifs:List Expr)(elt:Expr)(env:Env)(acc:Value)(G:Shared→Prop)(X:Value→Shared→Prop):Option Value→Shared→Prop:=fun r s=>match r with
 |none=>R (.ok .next) s
 |some v=>wpAny (model prog w) A (letOwnedTupleGo target it v) (fun _ s=>wpAny (model prog w) A (assign target env v) (CpA prog w A ifs elt env acc G X) X s) X s
theorem Kc{A:Around}{R:Result→Shared→Prop}{s:Shared}{elt target iter:Expr}{ifs:List Expr}{scope:Scope}{pos:Pos}{it acc:Value}{env:Env}(I:Nat→Shared→Prop)
  (turn:∀ n s,I n s→wpAny (model prog w) A (pyNext it) (CpN prog w A R target it ifs elt env acc (fun s=>∃ m,m < n∧I m s) (notedBy (model prog w) A env fun e s'=>R (.error e) s')) (notedBy (model prog w) A env fun e s'=>R (.error e) s') s)
  (n:Nat) (h:I n s) :
  codeAny (model prog w) A (.compLoop (.ListComp elt [⟨target,iter,ifs,0⟩] scope pos) 0 it acc env) R s:=by
 refine codeAny_loop rfl I (fun n s hI=>?_) n h;show wpAny _ A ((compTurn (.ListComp elt [⟨target,iter,ifs,0⟩] scope pos) 0 it acc env).onRaise (fun x=>do noteFrame x env;theTreesLotGoes x)) _ _ s;refine wpAny_noted ?_;rw[compTurn_list];refine wpAny_bind (wpAny_standAt (wpAny_bind (wpAny_mono (turn n s hI) (fun r s₁ h₁=>?_) fun _ _ h'=>h')));cases r with
 |none=>exact wpAny_pure h₁
 |some v =>
  refine wpAny_bind (wpAny_mono h₁ (fun _ s₁ h₁=>?_) fun _ _ h'=>h');refine wpAny_bind (wpAny_mono h₁ (fun _ s₂ h₂=>wpAny_bind (wpAny_mono h₂ (fun ok s₃ h₃=>?_) fun _ _ h'=>h')) fun _ _ h'=>h');cases ok with
  |false=>exact wpAny_pure ⟨rfl,h₃⟩
  |true =>
   replace h₃:wpAny (model prog w) A (eval elt env) (CpE prog w A acc _ _) _ s₃:=h₃;exact wpAny_bind (wpAny_bind (wpAny_mono h₃ (fun x s₄ h₄=>wpAny_bind (wpAny_mono h₄ (fun _ s₅ h₅=>wpAny_pure (wpAny_pure ⟨rfl,h₅⟩)) fun _ _ h'=>h')) fun _ _ h'=>h'))
noncomputable def gI(env:Env)(x:Str)(k:NameKind):NameKind:=if (k==NameKind.free&&env.scope.kind==ScopeKind.function&&env.kindOf x==some NameKind.cell)=true then NameKind.cell else k
theorem Kd(f:Str→NameKind→NameKind)(x:Str):∀ (names:List (Str×NameKind)),(names.map fun p=>(p.1,f p.1 p.2)).lookup x=(names.lookup x).map (f x):=by
 intro v0
 induction v0 with
 |nil =>
  exact rfl
 |cons pp r ih =>
  obtain⟨y,k⟩:=pp
  by_cases hxy:x=y
  ·subst hxy;simp[List.lookup]
  ·have h2:(x==y)=false:=beq_eq_false_iff_ne.mpr hxy;simp only[List.map_cons,List.lookup,h2];exact ih
theorem Ke(env:Env)(sc':Scope):(relabel sc' env).names=sc'.names.map fun p=>(p.1,gI env p.1 p.2):=by
 unfold relabel;show List.map _ sc'.names=_;refine List.map_congr_left fun p _=>?_;obtain⟨n,k⟩:=p;show(if _ then (n,NameKind.cell) else (n,k))=(n,gI env n k);unfold gI
 split<;>rfl
theorem jW{sc':Scope}{cl:List (Str×Addr)}{C:Addr}{env:Env}(x:Str):(compEnvC sc' cl C env).kindOf x=(sc'.names.lookup x).map (gI env x):=by
 show(relabel sc' env).names.lookup x=_;rw[Ke];exact Kd (gI env) x sc'.names
structure CompOk(sc sc':Scope)(t:Tg):Prop where
 kind:sc'.kind=.function
 loc:∀ p∈sc'.names,p.2=.local→(p.1 = ".0" ∨ p.1∈t.ns)∧sc'.names.lookup p.1=some .local
 cell:∀ p∈sc'.names,p.2≠.cell
 free:∀ p∈sc'.names,p.2=.free→lN (sc.names.lookup p.1)=true
 tgt:∀ x∈t.ns,x ≠ ".0" ∧ sc'.names.lookup x=some .local
 two:t.apart=true
 dbg:sc'.names.lookup (Str.ofString "__debug__")=none
 cld:sc'.names.lookup (Str.ofString "__classdict__")=none
theorem Kf{sc sc':Scope}{t:Tg}(h:lO sc sc' t=true):CompOk sc sc' t:=by
 unfold lO at h;simp only[Bool.and_eq_true] at h;obtain⟨⟨⟨⟨⟨h1,h2⟩,h3⟩,h4⟩,h5⟩,h6⟩:=h;have h2':=List.all_eq_true.mp h2;have h3':=List.all_eq_true.mp h3;refine⟨eq_of_beq h1,fun p hp hk=>?_,fun p hp hk=>?_,fun p hp hk=>?_,fun x hx=>?_,h4,Option.isNone_iff_eq_none.mp h5,Option.isNone_iff_eq_none.mp h6⟩
 ·have:=h2' p hp;rw[hk] at this;simp only[Bool.and_eq_true,Bool.or_eq_true,beq_iff_eq,List.contains_iff_mem] at this;exact this
 ·have:=h2' p hp;rw[hk] at this;exact bft this
 ·have:=h2' p hp;rw[hk] at this;exact this
 ·have:=h3' x hx;simp only[Bool.and_eq_true,bne_iff_ne,ne_eq,beq_iff_eq] at this;exact this
theorem aA.get_cons_ne{x y:Str}{v:Option V}{σ:aA}(h:x≠y):aA.get ((y,v)::σ) x=aA.get σ x:=by
 show(if x=y then some v else aA.get σ x)=_;rw[if_neg h]
theorem aA.get_cons_eq{x:Str}{v:Option V}{σ:aA}:aA.get ((x,v)::σ) x=some v:=by
 show(if x=x then some v else aA.get σ x)=_;rw[if_pos rfl]
theorem Kg{t:Tg}{d:PyData}{σ σ':aA}(hb:jL t d σ=some σ'):aA.get σ' ".0" = some none∧∀ x:Str,x ≠ ".0" → x∉t.ns→aA.get σ' x=aA.get σ x:=by
 cases t with
 |one z =>
  obtain rfl:=si hb;exact⟨aA.get_cons_eq,fun y h0 hy=>(aA.get_cons_ne h0).trans (aA.get_cons_ne fun e=>hy (List.mem_singleton.mpr e))⟩
 |pair z u =>
  obtain⟨q,_,rfl⟩:=Option.map_eq_some_iff.mp hb;exact⟨aA.get_cons_eq,fun y h0 hy=>(aA.get_cons_ne h0).trans ((aA.get_cons_ne fun e=>hy (by rw[e];exact List.mem_cons_of_mem _ List.mem_cons_self)).trans (aA.get_cons_ne fun e=>hy (by rw[e];exact List.mem_cons_self)))⟩
noncomputable def xZ:List Expr→List Str→Prop
 | [],[]=>True
 |e::es,x::xs=>(∃ p,e=.Name x p)∧xZ es xs
 |_,_=>False
theorem Kh:∀ {es:List Expr} {xs:List Str},cM es=some xs→xZ es xs:=by
 intro es
 induction es with
 |nil=>exact fun h=>by obtain rfl:=si h;exact trivial
 |cons e es ih =>
  intro xs h;replace h:((bB e).bind fun x=>(cM es).map (x::·))=some xs:=h;refine ocs (bB e) (fun hn=>?_) fun x hn=>?_
  ·rw[hn] at h;exact ns h
  ·rw[hn] at h;obtain⟨ys,e1,rfl⟩:=Option.map_eq_some_iff.mp h;exact⟨cW hn,ih e1⟩
inductive TgI(target:Expr):Tg→Prop where
 |one (x:Str) (p:Pos) (e:target=.Name x p):TgI target (.one x)
 |pair (x y:Str) (k:Nat) (p p1 p2:Pos) (e:target=.Tuple [.Name x p1,.Name y p2] k p):TgI target (.pair x y)
theorem Ki{target:Expr}{t:Tg}(h:jK target=some t):TgI target t:=by
 unfold jK at h;generalize hv:vw target=tv at h;cases tv with
 |name x =>
  obtain rfl:=si h;obtain⟨p,rfl⟩:=cE hv;exact .one x p rfl
 |tup es =>
  obtain⟨k,p,rfl⟩:=cE hv;replace h:(cM es).bind tgL=some t:=h;refine ocs (cM es) (fun hn=>by rw[hn] at h;exact ns h) fun xs hn=>?_;rw[hn] at h;have N:=Kh hn;cases xs with
  |nil=>exact ns h
  |cons a xs =>
   cases xs with
   |nil=>exact ns h
   |cons b xs =>
    cases xs with
    |cons=>exact ns h
    |nil =>
     obtain rfl:=si h;cases es with
     |nil=>exact N.elim
     |cons e es =>
      cases es with
      |nil=>exact N.2.elim
      |cons f es =>
       cases es with
       |cons=>exact N.2.2.elim
       |nil =>
        obtain⟨⟨p1,rfl⟩,⟨p2,rfl⟩,_⟩:=N;exact .pair a b k p p1 p2 rfl
 |_=>exact ns h
theorem Inv0.comp{env:Env}{sc sc':Scope}{σ σ':aA}{av avn:Addr→Prop}{s s':Shared}{t:Tg}{d:PyData}{cl:List (Str×Addr)}{C:Addr}{m:Str→Option Value}(I:Inv0 prog w mg mb base l env sc σ av s)(hok:CompOk sc sc' t)(hb:jL t d σ=some σ')
  (hcl:∀ x c,(x,NameKind.free)∈sc'.names→env.cells.lookup x=some c→cl.lookup x=some c) (k:K l s s') (hav:∀ b o,s.heap.get? b=some o→avn b→av b) (hva:∀ b,av b→avn b)
  (hlive:∀ b,avn b→∃ o,s'.heap.get? b=some o) (hns:s'.heap.Ns C m) (hm:∀ x v,x∈t.ns→aA.get σ' x=some (some v)→∃ u,m x=some u∧bV prog w mg l s'.heap avn u v) :
  Inv0 prog w mg mb base l (compEnvC sc' cl C env) sc' σ' avn s' where
 gnd:={ I.gnd.k k with fav:=fun b f=>hva b (I.gnd.fav b f),avlt:=hlive,avS:=hva _ I.gnd.avS }
 kind:=hok.kind
 eg:=I.eg
 eb:=I.eb
 dbg:=hok.dbg
 cld:=hok.cld
 glob:=fun x hx=>by
  unfold isG at hx;rw[jW,eq_of_beq hx];rfl
 kinds:=fun x hx=>by
  refine ocs (sc'.names.lookup x) (fun hl=>?_) fun k hl=>?_
  ·try rewrite[hl]
   rw[hl] at hx;exact bft hx
  ·try rewrite[hl]
   rw[hl] at hx;have hmem:=eM hl;cases k with
   |free =>
    obtain⟨h1,c,h2⟩:=I.kinds x (hok.free _ hmem rfl);rw[jW,hl];refine⟨?_,c,hcl x c hmem h2⟩;simp only[Option.map_some];unfold gI
    split<;>rfl
   |cell=>exact absurd rfl (hok.cell _ hmem)
   |_=>exact bft hx
 get:=fun x v hl hg=>by
  obtain⟨b1,b2⟩:=Kg hb;have hx0:x ≠ ".0" := fun e=>by rw[e,b1] at hg;cases hg
  unfold isL at hl;cases hk':sc'.names.lookup x with
  |none=>rw[hk'] at hl;exact bft hl
  |some kk =>
   rw[hk'] at hl;have hmem:=eM hk';cases kk with
   | «local» =>
    obtain⟨u,h1,h2⟩:=hm x v ((hok.loc _ hmem rfl).1.resolve_left hx0) hg;exact⟨u,.inl ⟨by rw[jW,hk'];rfl,m,hns,h1⟩,h2⟩
   |cell=>exact absurd rfl (hok.cell _ hmem)
   |free =>
    have hcf:=hok.free _ hmem rfl;have hnt:x∉t.ns:=fun ht=>by have:=(hok.tgt x ht).2;rw[hk'] at this;cases this
    rw[b2 x hx0 hnt] at hg;have hsl:isL sc x=true:=by
     unfold isL;refine ocs (sc.names.lookup x) (fun h=>?_) fun k h=>?_
     ·try rewrite[h]
      rw[h] at hcf;exact bft hcf
     ·try rewrite[h]
      cases k<;>first | rfl | (rw[h] at hcf;cases hcf)
    obtain⟨u,h1,h2⟩:=I.get x v hsl hg;obtain⟨k1,c,k2⟩:=I.kinds x hcf;refine⟨u,?_,?_⟩
    ·rcases h1.k k with ⟨e,_⟩ | ⟨_,c',e1,e2⟩
     ·rw[e] at k1;exact bft k1
     ·refine .inr ⟨?_,c',hcl x c' hmem e1,e2⟩;rw[jW,hk'];simp only[Option.map_some];unfold gI
      split
      ·exact .inl rfl
      ·exact .inr rfl
    ·exact(bV.mono (fun _ _ e=>e) hav h2).k (av:=avn) (fun b f=>hva b (I.gnd.fav b f)) k
   |_=>exact bft hl
theorem Kj{A:Around}{E:Value→Shared→Prop}{s:Shared}{env:Env}{target:Expr}{t:Tg}{d:PyData}{σ σ':aA}{avn:Addr→Prop}{v:Value}{m:Str→Option Value}{Q:Unit→Shared→Prop}(hh:A.handled=none)(ht:TgI target t)
  (hb:jL t d σ=some σ') (hv:Rep prog w s.heap avn v d) (hC:avn env.locals) (hn:s.heap.Ns env.locals m) (hl:∀ x∈t.ns,x ≠ ".0" ∧ env.kindOf x=some .local) (h2:t.apart=true) (hf:env.scope.kind=.function)
  (h:∀ h' tk m',h'.Ns env.locals m'→(∀ b o,b≠env.locals→s.heap.get? b=some o→h'.get? b=some o)→(∀ x v,x∈t.ns→aA.get σ' x=some (some v)→∃ u,m' x=some u∧bV prog w mg l h' avn u v)→Q () { s with heap:=h',toks:=tk }) :
  wpAny (model prog w) A (assign target env v) Q E s:=by
 have hp:(env.scope.kind==.class||(env.scope.kind==.module&&env.locals != env.globals))=false:=by rw[hf];rfl
 have mono:∀ {h1 h2:Heap} {v:Value} {d:PyData},Heap.SameBut env.locals h1 h2→Rep prog w h1 avn v d→Rep prog w h2 avn v d:=fun hs r =>
  r.mono (fun b o hb e=>by rw[hs.2 b (fun x=>hb (x▸hC))];exact e) fun _ _ _ x=>x
 cases ht with
 |one x p et =>
  subst et;obtain⟨q1,q2⟩:=hl x List.mem_cons_self;obtain rfl:=si hb;refine wpAny_assign_Name (wpAny_storeName_local q2 hn (fun h' hn' hs'=>?_) hp);refine h h' _ _ hn' (fun b o hb e=>by rw[hs'.2 b hb];exact e) fun y u hy hg=>?_;obtain rfl:=List.mem_singleton.mp hy;rw[bnd,aA.get_cons_ne q1,aA.get_cons_eq] at hg;cases hg;exact⟨v,by simp,mono hs' hv⟩
 |pair x y k p p1 p2 et =>
  subst et;obtain⟨q,hd,rfl⟩:=Option.map_eq_some_iff.mp hb;obtain⟨q1,q2⟩:=hl x List.mem_cons_self;obtain⟨q3,q4⟩:=hl y (List.mem_cons_of_mem _ List.mem_cons_self);have hxy:x≠y:=bne_iff_ne.mp h2;obtain⟨ad,v1,v2,rfl,g2,r1,r2⟩:=hv.two hd;refine wpAny_assign_Tuple hh g2.isTuple rfl rfl fun h1 he=>?_;have k1:∀ b o,s.heap.get? b=some o→h1.get? b=some o:=fun b o e=>he b o (jV e) e;refine wpAny_assignInOrder_more (wpAny_assign_Name (wpAny_storeName_local q2 (hn.keeps k1) (fun h2 hn2 hs2=>?_) hp));refine wpAny_assignInOrder_more (wpAny_assign_Name (wpAny_storeName_local q4 hn2 (fun h3 hn3 hs3=>?_) hp));refine wpAny_assignInOrder_none ?_;refine h h3 _ _ hn3 (fun b o hb e=>by rw[hs3.2 b hb,hs2.2 b hb];exact k1 b o e) fun z u hz hg=>?_;rcases List.mem_cons.mp hz with rfl | hz
  ·rw[aA.get_cons_ne q1,aA.get_cons_ne hxy,aA.get_cons_eq] at hg;cases hg;exact⟨v1,by simp[hxy],mono hs3 (mono hs2 (r1.keeps k1))⟩
  ·obtain rfl:=List.mem_singleton.mp hz;rw[aA.get_cons_ne q3,aA.get_cons_eq] at hg;cases hg;exact⟨v2,by simp,mono hs3 (mono hs2 (r2.keeps k1))⟩
end
end Mine
namespace Mine
open PySem
section
variable {prog:Program} {w:World} {mg mb:Str→Option Value} {base:Heap} {n:Nat} {hd:Bool} {l:List Env}
theorem Fin.nx{α β:Type}{r:R α}{k:α→R β}{fin:R β}(h:Fin (nx r) k fin):∃ a,r=.ok a∧k a=fin:=by
 cases r with
 |ok a=>exact⟨a,rfl,h.1⟩
 |_=>exact(Fin.no h).elim
theorem EH.ok{β:Type}{s:Shared}{av:Addr→Prop}{b:β}{E:Value→Shared→Prop}:EH prog w mg l s av (.ok b) E:=fun _ _ _ e=>nomatch e
noncomputable def mX(prog:Program)(w:World)(mg mb:Str→Option Value)(base:Heap)(n:Nat)(hd:Bool)(l:List Env)(sc:Scope)(σ:aA)(ifs:List Expr)(r:R Bool):Prop :=
 ∀ (A:Around) (env:Env) (s:Shared) (av:Addr→Prop),Room n hd l A→Inv0 prog w mg mb base l env sc σ av s→∀ {b:Bool} {Q:Bool→Shared→Prop} {E:Value→Shared→Prop},r=.ok b→(∀ s',K l s s'→Q b s') →
  wpAny (model prog w) A (forIn ifs true fun c r=>if r=true then do let ok ← isTrue c env (eval c env);pure (ForInStep.yield ok) else pure (ForInStep.yield r)) Q E s
theorem aE.val{sc:Scope}{σ:aA}{e:Expr}{r:R V}(h:aE prog w mg mb base n hd l sc σ e r){A:Around}{env:Env}{s:Shared}{av:Addr→Prop}(hA:Room n hd l A)(I:Inv0 prog w mg mb base l env sc σ av s){u:V}{Q:Value→Shared→Prop}{E:Value→Shared→Prop}(hr:r=.ok u)
  (hq:∀ v s',K l s s'→aY prog w s s'.heap av v u→Q v s'):wpAny (model prog w) A (eval e env) Q E s :=
 h A env s av hA I (k:=.ok) (fin:=.ok u) ⟨by rw[hr];rfl,nofun⟩ (fun v s' u' k r e=>by cases e;exact hq v s' k r) EH.ok
theorem Kk{sc:Scope}{σ:aA}:mX prog w mg mb base n hd l sc σ [] (.ok true):=fun A env s av _ _ _ _ _ hr hq=>by cases hr;exact wpAny_tests_nil (hq _ (K.rf l s))
theorem Kl{sc:Scope}{σ:aA}{c:Expr}{r:R V}(h:bO prog w mg mb base n hd l sc σ c r):mX prog w mg mb base n hd l sc σ [c] (tst r):=fun A env s av hA I b _ _ hr hq =>
 wpAny_tests_one (h A env s av hA I (k:=.ok) (fin:=.ok b) ⟨by rw[hr];rfl,nofun⟩ (fun b' s' k e=>by cases e;exact hq s' k) EH.ok)
structure Cst(prog:Program)(w:World)(l:List Env)(s₁:Shared)(avn:Addr→Prop)(D C:Addr)(xs:List PyData)(st:Shared):Prop where
 k:K l s₁ st
 ns:∃ m,st.heap.Ns C m
 lst:∃ ys:List Value,st.heap.PlainList D ys.toArray∧ys.length=xs.length∧∀ (j:Nat) (v:Value) (d:PyData),ys[j]?=some v→xs[j]?=some d→Rep prog w st.heap avn v d
theorem K.on{s s':Shared}{h':Heap}{tk:Nat}{c:Addr}(k:K l s s')(hc:s.heap.get? c=none)(hk:∀ b o,b≠c→s'.heap.get? b=some o→h'.get? b=some o):K l s { s' with heap:=h',toks:=tk }:=by
 obtain⟨h,t,rfl,k1,k2⟩:=k;have ne:∀ b o,s.heap.get? b=some o→b≠c:=fun b o e x=>by rw[x,hc] at e;exact ns e
 exact⟨h',tk,rfl,fun b o n e=>hk b o (ne b o e) (k1 b o n e),fun b o e=>by obtain⟨sl,e'⟩:=k2 b o e;exact⟨sl,hk b _ (ne b o e) e'⟩⟩
theorem K.onw{s s':Shared}{h':Heap}{tk:Nat}{c:Addr→Prop}(k:K l s s')(hc:∀ b,c b→s.heap.get? b=none)(hk:∀ b o,¬ c b→s'.heap.get? b=some o→h'.get? b=some o):K l s { s' with heap:=h',toks:=tk }:=by
 obtain⟨h,t,rfl,k1,k2⟩:=k;have ne:∀ b o,s.heap.get? b=some o→¬ c b:=fun b o e x=>by rw[hc b x] at e;exact ns e
 exact⟨h',tk,rfl,fun b o n e=>hk b o (ne b o e) (k1 b o n e),fun b o e=>by obtain⟨sl,e'⟩:=k2 b o e;exact⟨sl,hk b _ (ne b o e) e'⟩⟩
theorem yA{h:Heap}{av:Addr→Prop}{ys:List Value}{xs:List PyData}{v:Value}{x:PyData}(hl:ys.length=xs.length)(hr:∀ (j:Nat) (v:Value) (d:PyData),ys[j]?=some v→xs[j]?=some d→Rep prog w h av v d)(hx:Rep prog w h av v x) :
  ∀ (j:Nat) (v':Value) (d:PyData),(ys++[v])[j]?=some v'→(xs++[x])[j]?=some d→Rep prog w h av v' d :=
 wI hl (bs:=[x]) rfl hr fun j v' d e1 e2=>by
  cases j with
  |zero=>obtain rfl:=si e1;obtain rfl:=si e2;exact hx
  |succ j=>exact ns e1
theorem yB{α:Type}(t:Tg)(d:PyData)(σ:aA)(k:aA→R α):jM t d σ k=match jL t d σ with | some σ'=>k σ' | none=>.no:=by
 cases t with
 |one x=>rfl
 |pair x y =>
  show(match two d with | some q=>k _ | none=>.no)=match (two d).map _ with | some σ'=>k σ' | none=>.no
  cases two d with
  |none=>rfl
  |some q=>rfl
inductive CTurn(prog:Program)(w:World)(l:List Env)(s₁:Shared)(av':Addr→Prop)(D C:Addr)(n:Nat)(St:Nat→Heap→Prop)(P:Nat→List PyData→Prop)(m:Nat)(st:Shared):Prop where
 |mk (i:Nat) (xs:List PyData) (hi:i+m=n) (hx:xs.length≤i) (F:Cst prog w l s₁ av' D C xs st) (hs:St i st.heap) (hp:P i xs):CTurn prog w l s₁ av' D C n St P m st
theorem Km{A:Around}{env:Env}{sc sc':Scope}{σ:aA}{av:Addr→Prop}{s₁:Shared}{z:Tg}{target:Expr}{elt iter:Expr}{ifs:List Expr}{pos:Pos}{cl:List (Str×Addr)}{it:Value}{wr:Addr→Prop}{St:Nat→Heap→Prop}{ds:List PyData}{D C:Addr}
  {test:aA→R Bool} {eltF:aA→R V} (hA:Room n hd l A) (hh:A.handled=none) (htg:TgI target z) (I:Inv0 prog w mg mb base l env sc σ av s₁) (hok:CompOk sc sc' z) (hcl:∀ x c,(x,NameKind.free)∈sc'.names→env.cells.lookup x=some c→cl.lookup x=some c)
  (hT:∀ σ',mX prog w mg mb base n hd l sc' σ' ifs (test σ')) (hE:∀ σ',aE prog w mg mb base n hd l sc' σ' elt (eltF σ'))
  (S:Src prog w A s₁.heap av target it wr St ds) (hwr:∀ b,wr b→s₁.heap.get? b=none)
  (hD:s₁.heap.get? D=none) (hC:s₁.heap.get? C=none) (hDC:D≠C) (hlen:ds.length≤sizeLine) (hDwr:¬ wr D) (hCwr:¬ wr C)
  {R:Result→Shared→Prop} {β:Type} {k:List PyData→Mine.R β} {fin:Mine.R β} (hne:fin≠.no) (hR:∀ xs st',xs.length≤sizeLine→Cst prog w l s₁ (fun b=>av b∨wr b∨b=D∨b=C) D C xs st'→k xs=fin→R (.ok .next) st')
  {st:Shared} (h:Cst prog w l s₁ (fun b=>av b∨wr b∨b=D∨b=C) D C [] st) (hst:St 0 st.heap) (hf:rb (fK test eltF z σ ds) k=fin) :
  codeAny (model prog w) A (.compLoop (.ListComp elt [⟨target,iter,ifs,0⟩] sc' pos) 0 it (.ref D) (compEnvC sc' cl C env)) R st:=by
 have nf:∀ b,(wr b∨b=D∨b=C)→¬ frs l b:=fun b hb f=>by
  obtain⟨o,e⟩:=I.gnd.avlt _ (I.gnd.fav _ f);rcases hb with hb | rfl | rfl
  ·rw[hwr b hb] at e;exact ns e
  ·rw[hD] at e;exact ns e
  ·rw[hC] at e;exact ns e
 have new:∀ b o,s₁.heap.get? b=some o→(av b∨wr b∨b=D∨b=C)→av b:=fun b o e hb=>by
  rcases hb with hb | hb | rfl | rfl
  ·exact hb
  ·rw[hwr b hb] at e;exact ns e
  ·rw[hD] at e;exact ns e
  ·rw[hC] at e;exact ns e
 have fvn:∀ b,frs l b→(av b∨wr b∨b=D∨b=C):=fun b f=>.inl (I.gnd.fav b f);obtain⟨P,hP⟩:∃ P:Nat→List PyData→Prop,∀ i xs,P i xs↔rb (fK test eltF z σ (ds.drop i)) (fun ys=>k (xs++ys))=fin:=⟨_,fun _ _=>Iff.rfl⟩
 refine Kc (I:=CTurn prog w l s₁ (fun b=>av b∨wr b∨b=D∨b=C) D C ds.length St P) ?_ ds.length ⟨0,[],Nat.zero_add _,Nat.le_refl _,h,hst,(hP _ _).mpr hf⟩;clear h hst hf st
 rintro m st ⟨i,xs,hi,hx,F,hst,hp⟩
 replace hp:=(hP _ _).mp hp;obtain⟨kk,⟨mm,hns⟩,ys,hpl,hyl,hys⟩:=F;have live:∀ (st':Shared),K l s₁ st'→(∃ m,st'.heap.Ns C m)→st'.heap.PlainList D ys.toArray→(∀ b,wr b→∃ o,st'.heap.get? b=some o)→∀ b,(av b∨wr b∨b=D∨b=C)→∃ o,st'.heap.get? b=some o:=fun st' kk hn hp hw b hb=>by
  rcases hb with hb | hb | rfl | rfl
  ·obtain⟨o,e⟩:=I.gnd.avlt b hb;obtain⟨sl,e'⟩:=kk.up e;exact⟨_,e'⟩
  ·exact hw b hb
  ·obtain⟨nn,e⟩:=hp;exact⟨_,e⟩
  ·obtain⟨_,o,_,_,e,_⟩:=hn;exact⟨o,e⟩
 by_cases hend:i=ds.length
 ·subst hend;rw[List.drop_length] at hp;have hp:k (xs++[])=fin:=hp;rw[List.append_nil] at hp;refine wpAny_mono (S.done st _ (fun s'=>R (.ok .next) s') hst fun h' tk hk=>hR xs _ (Nat.le_trans hx hlen) ⟨kk.onw hwr hk,⟨mm,hns.at' fun o e=>hk C o hCwr e⟩,ys,hpl.at fun o e=>hk D o hDwr e,hyl,fun j v d e1 e2 =>
   (hys j v d e1 e2).mono (fun b o hb e=>hk b o (fun hw=>hb (.inr (.inl hw))) e) fun _ _ _ x=>x⟩ hp) (fun r s₁ h₁=>?_) fun _ _ x=>x
  cases r with
  |none=>exact h₁
  |some v=>exact h₁.elim
 ·have hlt:i < ds.length:=by exact uM hi hend
  rw[List.drop_eq_getElem_cons hlt] at hp;replace hp:Fin (rb (nx (jM z ds[i] σ test)) fun b=>if b then rb (nx (jM z ds[i] σ eltF)) fun v=>rb (fK test eltF z σ (ds.drop (i+1))) fun xs=>.ok (dOf v::xs) else fK test eltF z σ (ds.drop (i+1))) (fun ys=>k (xs++ys)) fin:=⟨hp,hne⟩
  obtain⟨b,ht,hp⟩:=hp.b.nx;rw[yB] at ht;simp only[yB] at hp;refine ocs (jL z ds[i] σ) (fun hbt=>by rw[hbt] at ht;cases ht) fun σ' hbt=>?_;rw[hbt] at ht hp;refine wpAny_mono (S.item i ds[i] st _ ?QQ (List.getElem?_eq_getElem hlt) hst ?body) ?link fun _ _ x=>x
  case link =>
   intro r s₁ h₁;cases r with
   |none=>exact h₁.elim
   |some v=>exact h₁
  intro v h1 tk1 hk1 st1 hrep;have rv:=hrep (fun b=>av b∨wr b∨b=D∨b=C) (live st kk ⟨mm,hns⟩ hpl (S.live i _ hst)) new;refine Kj (l:=l) (mg:=mg) hh htg hbt rv (.inr (.inr (.inr rfl))) (hns.at' fun o e=>hk1 C o hCwr e) (fun x hx=>⟨(hok.tgt x hx).1,by rw[jW,(hok.tgt x hx).2];rfl⟩) hok.two hok.kind fun h2 tk2 m2 hn2 hk2 hm2=>?_;have k2:K l s₁ { st with heap:=h2,toks:=tk2 }:=K.on (s':={ st with heap:=h1,toks:=tk1 }) (c:=C) (kk.onw (tk:=tk1) hwr hk1) hC hk2;have st2:St (i+1) h2:=S.frame _ _ _ st1 (fun b o hb e=>hk2 b o (fun x=>hCwr ((show b=C from x)▸hb)) e) fun b o e hav=>k2.at (fun f=>hav (I.gnd.fav b f)) e;have pl2:h2.PlainList D ys.toArray:=hpl.at fun o e=>hk2 D o (fun x=>hDC x) (hk1 D o hDwr e);have ys2:∀ (j:Nat) (v:Value) (d:PyData),ys[j]?=some v→xs[j]?=some d→Rep prog w h2 (fun b=>av b∨wr b∨b=D∨b=C) v d:=fun j v d e1 e2 =>
   (hys j v d e1 e2).mono (fun b o hb e=>hk2 b o (fun x=>hb (.inr (.inr (.inr x)))) (hk1 b o (fun hw=>hb (.inr (.inl hw))) e)) fun _ _ _ x=>x
  have I2:Inv0 prog w mg mb base l (compEnvC sc' cl C env) sc' σ' (fun b=>av b∨wr b∨b=D∨b=C) { st with heap:=h2,toks:=tk2 } :=
   I.comp hok hbt hcl k2 new (fun _ x=>.inl x) (live { st with heap:=h2,toks:=tk2 } k2 ⟨m2,hn2⟩ pl2 (S.live _ _ st2)) hn2 hm2
  refine hT σ' A _ _ _ hA I2 ht fun s₃ k3=>?_;have kk3:=k2.tr k3;have st3:St (i+1) s₃.heap:=S.frame _ _ _ st2 (fun b o hb e=>k3.at (nf b (.inl hb)) e) fun b o e hav=>kk3.at (fun f=>hav (I.gnd.fav b f)) e;have pl3:s₃.heap.PlainList D ys.toArray:=pl2.at fun o e=>k3.at (nf D (.inr (.inl rfl))) e;have ns3:s₃.heap.Ns C m2:=hn2.at' fun o e=>k3.at (nf C (.inr (.inr rfl))) e;have ys3:=fun j v d e1 e2=>Rep.k fvn k3 (ys2 j v d e1 e2);cases b with
  |false=>exact(show ∃ m',m' < m∧CTurn prog w l s₁ _ D C ds.length St P m' s₃ from ⟨m - 1,by exact oP hi hend,i+1,xs,by exact oQ hi hend,by exact C2 hx,⟨kk3,⟨m2,ns3⟩,ys,pl3,hyl,ys3⟩,st3,(hP _ _).mpr hp⟩)
  |true =>
   replace hp:Fin (rb (nx (eltF σ')) fun v=>rb (fK test eltF z σ (ds.drop (i+1))) fun xs=>.ok (dOf v::xs)) (fun ys=>k (xs++ys)) fin:=⟨hp,hne⟩
   obtain⟨u,hu,hp⟩:=hp.b.nx;have I3:=I2.k k3;refine(hE σ').val hA I3 hu fun xv s₄ k4 r4=>?_;have rx:=r4.rep I3.gnd.avlt;have kk4:=kk3.tr k4;have pl4:s₄.heap.PlainList D ys.toArray:=pl3.at fun o e=>k4.at (nf D (.inr (.inl rfl))) e;refine wpAny_list_append_plain pl4 (fun h5 pl5 hs5=>?_) (by simp;exact C3 hlen hi hx hyl);have k45:∀ b o,b≠D→s₄.heap.get? b=some o→h5.get? b=some o:=fun b o hb e=>by rw[hs5.2 b hb];exact e
   have kk5:K l s₁ { s₄ with heap:=h5 }:=kk4.on (tk:=s₄.toks) hD k45;have hp:rb (fK test eltF z σ (ds.drop (i+1))) (fun ys=>k ((xs++[dOf u])++ys))=fin:=by
    rw[← hp,pT];congr 1;funext ys;show k _=k _;rw[List.append_assoc];rfl
   refine⟨m - 1,by exact oP hi hend,i+1,xs++[dOf u],by exact oQ hi hend,by simp;exact C4 hx,⟨kk5,⟨m2,?_⟩,ys++[xv],by simpa using pl5,by simp[hyl],yA hyl (fun j v d e1 e2=>?_) ?_⟩,?_,(hP _ _).mpr hp⟩
   ·exact ns3.at' fun o e=>k45 C o (fun x=>hDC x.symm) (k4.at (nf C (.inr (.inr rfl))) e)
   ·exact(Rep.k fvn k4 (ys3 j v d e1 e2)).mono (fun b o hb e=>k45 b o (fun x=>hb (.inr (.inr (.inl x)))) e) fun _ _ _ x=>x
   ·exact rx.mono (fun b o hb e=>k45 b o (fun x=>hb (.inr (.inr (.inl x)))) e) fun _ _ _ x=>x
   ·exact S.frame _ _ _ st3 (fun b o hb e=>k45 b o (fun x=>hDwr (x▸hb)) (k4.at (nf b (.inl hb)) e)) fun b o e hav=>kk5.at (fun f=>hav (I.gnd.fav b f)) e
end
end Mine
namespace Mine
open PySem
section
variable {prog:Program} {w:World} {mg mb:Str→Option Value} {base:Heap} {n:Nat} {hd:Bool} {l:List Env}
theorem Kn{av:Addr→Prop}{s s₁:Shared}{wr:Addr→Prop}{D C:Addr}{xs:List PyData}{st:Shared}{h':Heap}(k0:K l s s₁)(hD:s₁.heap.get? D=none)(hC:s₁.heap.get? C=none)(hDC:D≠C)
  (F:Cst prog w l s₁ (fun b=>av b∨wr b∨b=D∨b=C) D C xs st) (hl:xs.length≤sizeLine) (hs:Heap.SameBut C st.heap h'):K l s { st with heap:=h' }∧aY prog w s h' av (.ref D) (.own (.list xs)):=by
 obtain⟨kk,_,ys,hpl,hyl,hys⟩:=F;have hk:∀ b o,b≠C→st.heap.get? b=some o→h'.get? b=some o:=fun b o hb e=>by rw[hs.2 b hb];exact e
 refine⟨k0.tr (kk.on (tk:=st.toks) hC hk),D,rfl,k0.non hD,ys,hpl.at fun o e=>hk D o hDC e,hyl,by rw[hyl];exact hl,fun j v d e1 e2=>?_⟩;refine(hys j v d e1 e2).mono (fun b o hb e=>hk b o (fun x=>hb (.inr (.inr (.inr x)))) e) fun b o _ hb=>?_;rcases hb with hb | hb
 ·exact .inl hb
 ·exact .inr (.inr (.inl hb))
theorem yC{rec:Expr→R V}{sc:Scope}{target e:Expr}(hbad:∀ e,bad e=true→rec e=.no)(h:bad e=true):eS rec hd sc target e=.no:=by
 have h0:gY rec e=.no:=by unfold gY;rw[hbad e h];rfl
 unfold eS
 split
 ·rfl
 ·unfold bad at h;unfold gZ f8;generalize vw e=v at h;cases v<;>first | exact h0 | cases h
theorem yD{rec:Scope→aA→Expr→R V}{sc sc':Scope}{σ:aA}{elt:Expr}{g:Comprehension}{pos cpos:Pos}(hbad:∀ e,bad e=true→rec sc σ e=.no)
  (hit:aE prog w mg mb base n hd l sc σ g.iter (rec sc σ g.iter)) (hsub:∀ f as kws q,g.iter=.Call f as kws q→∀ a∈as,aE prog w mg mb base n hd l sc σ a (rec sc σ a))
  (hT:∀ c∈g.ifs,∀ σ',bO prog w mg mb base n hd l sc' σ' c (rec sc' σ' c)) (hE:∀ σ',aE prog w mg mb base n hd l sc' σ' elt (rec sc' σ' elt))
  {A:Around} {env:Env} {s:Shared} {av:Addr→Prop} (hA:Room n hd l A) (I:Inv0 prog w mg mb base l env sc σ av s) {β:Type} {k:V→R β} {fin:R β} {Q:Value→Shared→Prop} {E:Value→Shared→Prop} {use:Option (Value→Sem Unit)}
  (hf:Fin (hO rec hd sc σ elt g sc') k fin) (he:EH prog w mg l s av fin E)
  (hq:∀ (s₁:Shared) (wr:Addr→Prop) (D C:Addr) (xs:List PyData) (st':Shared),K l s s₁→s₁.heap.get? D=none→s₁.heap.get? C=none→D≠C→xs.length≤sizeLine→Cst prog w l s₁ (fun b=>av b∨wr b∨b=D∨b=C) D C xs st'→k (.own (.list xs))=fin→compPost (model prog w) A E use Q (.ref D) C (.ok .next) st') :
  wpAny (model prog w) A (comprehension (.ListComp elt [g] sc' pos) sc' env cpos (newList []) (firstAsync [g]) (firstIter [g] env) use) Q E s:=by
 obtain⟨target,iter,ifs,as⟩:=g;unfold hO at hf;replace hf:Fin (match jK target with
  |none=>.no
  |some x=>if (lO sc sc' x&&as==0)=true then match pE rec sc' ifs with
   |none=>.no
   |some t=>rb (rb (eS (rec sc σ) hd sc target iter) fun l=>fK t (fun σ'=>rec sc' σ' elt) x σ l) fun r=>ofP (own (.list r))
  else .no) k fin:=hf
 cases hn:jK target with
 |none=>rw[hn] at hf;exact hf.no.elim
 |some z =>
  rw[hn] at hf;obtain⟨hc,hf1⟩:=Fin.ite hf;clear hf;have htg:=Ki hn;simp only[Bool.and_eq_true,beq_iff_eq] at hc;obtain⟨c1,rfl⟩:=hc;have hok:=Kf c1;refine ocs (pE rec sc' ifs) (fun htt=>?_) fun t htt=>?_
  ·try rewrite[htt]
   rw[htt] at hf1;exact hf1.no.elim
  ·try rewrite[htt]
   rw[htt] at hf1;have hT':∀ σ',mX prog w mg mb base n hd l sc' σ' ifs (t σ'):=fun σ'=>by
    cases ifs with
    |nil=>obtain rfl:=si htt;exact Kk
    |cons c r =>
     cases r with
     |nil=>obtain rfl:=si htt;exact Kl (hT c List.mem_cons_self _)
     |cons=>cases htt
   have hb:bad iter=false:=eL (fun e=>yC hbad e) hf1.b.b.ne;obtain⟨cl,hclos,hcl⟩:=Kb (env:=env) (scope:=sc') fun p hp hk=>(I.kinds p.1 (hok.free p hp hk)).2;have hs:∀ x,foldedSetIterable iter env x=pure x:=fun x=>by
    unfold foldedSetIterable;cases iter<;>first | rfl | cases hb
   refine wpAny_comprehension_free (g:=⟨target,iter,ifs,0⟩) (gs:=[]) rfl hs hclos hok.kind (fun p hp hk=>(hok.loc p hp hk).2) ?_;have hhd:hd=false:=by
    cases hd with
    |false=>rfl
    |true=>exact hf1.b.b.no.elim
   refine xX (target:=target) hbad hit hsub A env s av hA I hf1.b.b (fun it s₂ ds x h1=>?_) he;obtain⟨s₁,wr,St,k0,S,hst,hwr,k2,hlen⟩:=x;refine wpAny_newObj_type (wpAny_newFunctionEnv hok.cell (by intro y hy;simp at hy) (fun h₁ hns₁ hsb₁=>?_) hok.kind);dsimp only at hns₁ hsb₁ ⊢;generalize hH2:s₂.heap.push { cls:=.type "list", dict:=none,data:=.seq ([]:List Value).toArray }=H2 at hns₁ hsb₁ ⊢;have hC:H2.objs.size=s₂.heap.objs.size+1:=by rw[← hH2,Heap.size_push]
   have hDC:s₂.heap.objs.size≠H2.objs.size:=by rw[hC];exact Nat.ne_of_lt (Nat.lt_succ_self _)
   have below:∀ b,b < s₂.heap.objs.size→b≠H2.objs.size:=fun b hb=>by rw[hC];exact Nat.ne_of_lt (Nat.lt_succ_of_lt hb)
   have old:∀ b o,s₂.heap.get? b=some o→h₁.get? b=some o:=fun b o e=>hsb₁.extBut b o (below b (Heap.lt_size e)) (Heap.get?_push_of_some _ (hH2▸Heap.get?_push_of_some _ e));have hacc:h₁.PlainList s₂.heap.objs.size #[]:=⟨_,hsb₁.extBut _ _ hDC (Heap.get?_push_of_some _ (hH2▸Heap.get?_push_size _ rfl))⟩
   have hD2:s₂.heap.get? s₂.heap.objs.size=none:=bL _;have hC2:s₂.heap.get? H2.objs.size=none:=Heap.get?_none_of_le (by rw[hC];exact Nat.le_succ _);have kk2:K l s₁ s₂:=K.of k2;have hst₁:St 0 h₁:=S.frame _ _ _ hst (fun b o _ e=>old b o e) fun b o e _=>old b o (k2.heap b o e);have loop:∀ s₃:Shared,s₃={ s₂ with heap:=h₁,toks:=s₂.toks+([]:List (Str×Value)).length } →
     codeAny (model prog w) A (.compLoop (.ListComp elt [⟨target,iter,ifs,0⟩] sc' pos) 0 it (.ref s₂.heap.objs.size) (compEnvC sc' cl H2.objs.size env)) (compPost (model prog w) A E use Q (.ref s₂.heap.objs.size) H2.objs.size) s₃:=by
    rintro s₃ rfl
    refine Km (s₁:=s₁) (wr:=wr) hA (hA.handled hhd) htg (I.k k0) hok hcl hT' (fun σ'=>hE σ') S (fun b hb=>(hwr b hb).1) (kk2.non hD2) (kk2.non hC2) hDC hlen (fun hw=>?_) (fun hw=>?_) hf1.2 (fun xs st' hz F e=>?_) ⟨kk2.trp (Kp.mk' old),⟨_,hns₁⟩,[],hacc,rfl,nofun⟩ hst₁ h1
    ·obtain⟨o,e⟩:=(hwr _ hw).2;rw[hD2] at e;exact ns e
    ·obtain⟨o,e⟩:=(hwr _ hw).2;rw[hC2] at e;exact ns e
    ·exact hq s₁ wr _ _ xs st' k0 (kk2.non hD2) (kk2.non hC2) hDC hz F e
   exact codeAny_compStart_list (loop _ rfl) (S.self 0 _ _ _ hst₁ (loop _ rfl))
theorem Ko{rec:Scope→aA→Expr→R V}{sc sc':Scope}{σ:aA}{elt:Expr}{g:Comprehension}{pos:Pos}(hbad:∀ e,bad e=true→rec sc σ e=.no)
  (hit:aE prog w mg mb base n hd l sc σ g.iter (rec sc σ g.iter)) (hsub:∀ f as kws q,g.iter=.Call f as kws q→∀ a∈as,aE prog w mg mb base n hd l sc σ a (rec sc σ a))
  (hT:∀ c∈g.ifs,∀ σ',bO prog w mg mb base n hd l sc' σ' c (rec sc' σ' c)) (hE:∀ σ',aE prog w mg mb base n hd l sc' σ' elt (rec sc' σ' elt)) :
  aE prog w mg mb base n hd l sc σ (.ListComp elt [g] sc' pos) (hO rec hd sc σ elt g sc'):=by
 intro A env s av hA I β k fin Q E hf hq he;rw[eval_ListComp];refine yD hbad hit hsub hT hE hA I hf he fun s₁ wr D C xs st' k0 hD hC hDC hz F e=>?_;obtain⟨m,hn⟩:=F.ns;exact⟨m,hn,fun h' hs=>by obtain⟨a,b⟩:=Kn k0 hD hC hDC F hz hs;exact hq _ _ (.own (.list xs)) a b e⟩
end
end Mine
namespace Mine
open PySem
section
variable {prog:Program} {w:World} {mg mb:Str→Option Value} {base:Heap} {n:Nat} {l:List Env}
theorem yE{rec:Scope→aA→Expr→R V}{C:Ctx}{sc:Scope}{σ:aA}{e:Expr}(h:bad e=true):eI rec C sc σ e=.no:=by
 cases e<;>first | rfl | cases h
theorem P.bindI{α β:Type}{p:P α}{f:α→P β}{b:β}(h:p.bind f=.ok b):∃ a,p=.ok a∧f a=.ok b:=by
 cases p with
 |no=>exact pno h
 |ok a=>exact⟨a,rfl,h⟩
theorem Kq{o:Option (Option V)}{x:X}(h:vI o=some x):o=some (some (.ex x)):=by
 cases o with
 |none=>exact ns h
 |some v =>
  cases v with
  |none=>exact ns h
  |some v =>
   cases v with
   |ex y=>obtain rfl:=si h;rfl
   |_=>exact ns h
theorem Kr{fs:List (Str×PyData)}{p:Str}{d:PyData}(h:jR fs p=some d):(p,d)∈fs:=by
 induction fs with
 |nil=>exact ns h
 |cons q r ih =>
  obtain⟨y,e⟩:=q;replace h:(if p=y then some e else jR r p)=some d:=h
  by_cases hy:p=y
  ·rw[if_pos hy] at h;obtain rfl:=si h;rw[hy];exact List.mem_cons_self
  ·rw[if_neg hy] at h;exact List.mem_cons_of_mem _ (ih h)
theorem Rep.handed{h:Heap}{av:Addr→Prop}{v:Value}{d:PyData}(r:Rep prog w h av v d):handedOut v=pure v:=by cases r<;>rfl
theorem iE{α:Type}{o:Option α}{x:α}(h:ofO o=.ok x):o=some x:=by
 cases o with
 |none=>exact pno h
 |some y=>obtain rfl:=pi h;rfl
theorem Ks{C:Ctx}(hK:KSound prog w mg mb base n C){sc:Scope}{σ:aA}{o:Expr}{m:Str}{p:Pos}:aE prog w mg mb base n C.hd l sc σ (.Attribute o m p) (ofP (vJ C sc σ o m)):=by
 intro A env s av hA I β k fin Q E hf hq he;obtain⟨u,e0,e2⟩:=hf.p;obtain⟨z,h1,e1⟩:=P.bindI e0;obtain⟨pz,rfl⟩:=cW (iE h1)
 by_cases hl:isL sc z=true
 case neg=>rw[if_neg hl] at e1;exact pno e1
 rw[if_pos hl] at e1;obtain⟨x,h2,e1⟩:=P.bindI e1;obtain⟨i,h3,e1⟩:=P.bindI e1;obtain⟨ps,h4,e1⟩:=P.bindI e1
 by_cases hm:ps.contains m=true
 case neg=>rw[if_neg hm] at e1;exact pno e1
 rw[if_pos hm] at e1;obtain⟨d,h5,e1⟩:=P.bindI e1;obtain rfl:=pi e1;have hi:(bE x.cls prog.main.body).map (·.2)=some (some ps):=by
  rw[← iE h4,← iE h3,hK.init]
 obtain⟨pc,hpc,hps⟩:=Option.map_eq_some_iff.mp hi;obtain⟨v,hva,e,rfl,na,ob,vs,Ca,g1,g2,g3,g4,g5⟩:=I.get z (.ex x) hl (Kq (iE h2));obtain⟨C',bm,c1,c2,_⟩:=I.gnd.glo.cls x.cls pc hpc;rw[g4] at c1;obtain rfl:=Value.ref.inj (si c1);rcases g5 with g5 | ⟨dd,mm,ed,nn,hns,r⟩
 ·rw[g5] at h5;exact ns (iE h5)
 obtain⟨v',hv1,hv2⟩:=r m d (Kr (iE h5));rw[arm_eval_Attribute];refine wpAny_bind ?_;show wpAny (model prog w) A (eval (.Name z pz) env) _ _ _;refine fP I hl hva (wpAny_bind (wpAny_standAt (wpAny_bind (wpAny_holding (c2.fld ps hps m (List.contains_iff_mem.mp hm) A s e dd ob vs mm v' E _ I.gnd.stay g1 g3 g2 ed hns hv1 hv2.handed fun tk=>?_)))));exact wpAny_bind (wpAny_pure (wpAny_pure (hq v' _ (.fz d) (K.of ⟨s.heap,tk,rfl,fun _ _ e=>e⟩) hv2 e2)))
theorem Kt{C:Ctx}(hK:KSound prog w mg mb base n C){rec:Scope→aA→Expr→R V}(hbad:∀ sc σ e,bad e=true→rec sc σ e=.no)
  (ih:∀ sc σ e,aE prog w mg mb base n C.hd l sc σ e (rec sc σ e)∧bO prog w mg mb base n C.hd l sc σ e (rec sc σ e)) (sc:Scope) (σ:aA) (e:Expr) :
  aE prog w mg mb base n C.hd l sc σ e (eI rec C sc σ e)∧bO prog w mg mb base n C.hd l sc σ e (eI rec C sc σ e):=by
 have hE:∀ e,aE prog w mg mb base n C.hd l sc σ e (rec sc σ e):=fun e=>(ih sc σ e).1;have hT:∀ e,bO prog w mg mb base n C.hd l sc σ e (rec sc σ e):=fun e=>(ih sc σ e).2;have tv:∀ {e p},aE prog w mg mb base n C.hd l sc σ e p→(∀ env whole,PySem.isTrue e env whole=(do let v ← whole;standAt e.pos;holding [v] (truthy v)))→aE prog w mg mb base n C.hd l sc σ e p∧bO prog w mg mb base n C.hd l sc σ e p:=fun h he=>⟨h,wM h he⟩
 have tn:∀ {e},aE prog w mg mb base n C.hd l sc σ e .no∧bO prog w mg mb base n C.hd l sc σ e .no:=⟨fun _ _ _ _ _ _ _ _ _ _ _ hf=>hf.no.elim,fun _ _ _ _ _ _ _ _ _ _ _ hf=>(Fin.b hf).no.elim⟩
 cases e with
 |Constant c k p=>exact tv Go fun _ _=>rfl
 |Name x p=>exact tv (Gn hK.const) fun _ _=>rfl
 |BoolOp op vs p =>
  cases op with
  |And=>exact⟨fun A env s av hA I _ _ _ _ _ hf hq he=>G5 hA (fun e _=>hE e) I hf hq he,fun A env s av hA I _ _ _ _ _ hf hq he=>G7 hA (fun e _=>hT e) I hf hq he⟩
  |Or=>exact⟨fun A env s av hA I _ _ _ _ _ hf hq he=>G6 hA (fun e _=>hE e) I hf hq he,fun A env s av hA I _ _ _ _ _ hf hq he=>G8 hA (fun e _=>hT e) I hf hq he⟩
 |BinOp l op r p=>exact tv (G1 (hE l) (hE r)) fun _ _=>rfl
 |UnaryOp op x p =>
  refine⟨wL (hE x),?_⟩;cases op with
  |Not=>exact G3 (hT x)
  |_=>exact wM (wL (hE x)) fun _ _=>rfl
 |IfExp t b o p=>exact⟨G2 (hT t) (hE b) (hE o),G4 (hT t) (hT b) (hT o)⟩
 |Dict ks vs p=>exact tv (Jm (fun k _=>hE k) fun e _=>hE e) fun _ _=>rfl
 |List es p=>exact tv (Hc (hbad sc σ) fun e _=>hE e) fun _ _=>rfl
 |Tuple es k p=>exact tv (Hd (hbad sc σ) fun e _=>hE e) fun _ _=>rfl
 |ListComp elt gens sc' p =>
  cases gens with
  |nil=>exact tn
  |cons g gs =>
   cases gs with
   |nil=>exact tv (Ko (hbad sc σ) (hE _) (fun _ _ _ _ _ a _=>hE a) (fun c _ σ'=>(ih sc' σ' c).2) fun σ'=>(ih sc' σ' elt).1) fun _ _=>rfl
   |cons=>exact tn
 |Compare l ops es p=>exact⟨G9 (hbad sc σ) (hE l) fun e _=>hE e,Ha (hbad sc σ) (hE l) fun e _=>hE e⟩
 |Subscript o i p=>exact tv (Hn (hE o) (hE i) fun c _=>⟨fun x _=>hE x,fun x _=>hE x⟩) fun _ _=>rfl
 |Attribute o m p=>exact tv (Ks hK) fun _ _=>rfl
 |Call f as kws p =>
  cases kws with
  |cons=>exact tn
  |nil =>
   show aE prog w mg mb base n C.hd l sc σ _ (match vw f with | .attr o m ap=>jQ (rec sc σ) o m ap as p | .name f=>lT (rec sc σ) C sc σ f as | _=>.no)∧bO prog w mg mb base n C.hd l sc σ _ (match vw f with | .attr o m ap=>jQ (rec sc σ) o m ap as p | .name f=>lT (rec sc σ) C sc σ f as | _=>.no);cases hv:vw f with
   |attr o m ap =>
    have ef:f=_:=cE hv;subst ef;exact tv (Je (hbad sc σ) (hE o) fun e _=>hE e) fun _ _=>rfl
   |name x =>
    obtain⟨q,rfl⟩:=cE hv;exact tv (Ji hK (hbad sc σ) (fun e _=>hE e) fun _ _ _ _ _ _ _=>⟨fun x _=>hE x,fun o _ _ _=>hE o⟩) fun _ _=>rfl
   |_=>exact tn
 |_=>exact tn
theorem jX{C:Ctx}(hK:KSound prog w mg mb base n C):∀ (k:Nat) (sc:Scope) (σ:aA) (e:Expr),aE prog w mg mb base n C.hd l sc σ e (evE C k sc σ e)∧bO prog w mg mb base n C.hd l sc σ e (evE C k sc σ e):=by
 intro v0
 induction v0 with
 |zero =>
  intro _ _ _;exact⟨fun _ _ _ _ _ _ _ _ _ _ _ hf=>hf.no.elim,fun _ _ _ _ _ _ _ _ _ _ _ hf=>(Fin.b hf).no.elim⟩
 |succ k ih =>
  intro sc σ e;exact Kt hK (rec:=evE C k) (fun sc σ e hb=>by cases k with | zero=>rfl | succ k=>exact yE hb) (fun sc σ e=>ih sc σ e) sc σ e
end
end Mine
namespace Mine
open PySem
section
variable {prog:Program} {w:World} {mg mb:Str→Option Value} {base:Heap} {l₀:List Env} {env:Env} {sc:Scope} {av₀:Addr→Prop} {s₀:Shared}
theorem IsCell.uniq{h:Heap}{c:Addr}{v v':Option Value}(x:h.IsCell c v)(y:h.IsCell c v'):v=v':=by
 obtain⟨o,e,d⟩:=x;obtain⟨o',e',d'⟩:=y;rw[e] at e';cases e';rw[d] at d';cases d';rfl
theorem aW.uniq{h:Heap}{x:Str}{u u':Value}(a:aW env h x u)(b:aW env h x u'):u=u':=by
 rcases a with ⟨k,m,hn,e⟩ | ⟨k,c,e,hc⟩
 ·rcases b with ⟨k',m',hn',e'⟩ | ⟨k',c',e',hc'⟩
  ·rw[hn.eq_nsMap] at e;rw[hn'.eq_nsMap] at e';rw[e] at e';exact Option.some.inj e'
  ·rw[k] at k';rcases k' with k' | k'<;>cases k'
 ·rcases b with ⟨k',m',hn',e'⟩ | ⟨k',c',e',hc'⟩
  ·rw[k'] at k;rcases k with k | k<;>cases k
  ·rw[e] at e';cases e';exact Option.some.inj (IsCell.uniq hc hc')
noncomputable def Mn(env:Env)(b:Addr):Prop:=b=env.locals∨∃ y,env.cells.lookup y=some b
noncomputable def bW(env:Env)(σ:aA)(h:Heap)(x:Str)(a:Addr):Prop:=(∃ d,aA.get σ x=some (some (.own d)))∧aW env h x (.ref a)
structure Act(prog:Program)(w:World)(mg mb:Str→Option Value)(base:Heap)(l₀:List Env)(env:Env)(sc:Scope)(av₀:Addr→Prop)(s₀:Shared)(σ:aA)(av:Addr→Prop)(s:Shared):Prop where
 inv:Inv0 prog w mg mb base (env::l₀) env sc σ av s
 stay0:∀ b o,base.get? b=some o→s₀.heap.get? b=some o
 frm:env.frame=some env.locals
 fr0:∀ b,frs l₀ b→av₀ b∧∃ o,s₀.heap.get? b=some o
 k0:K l₀ s₀ s
 bas:∀ b,av₀ b→av b
 ns:∃ m,s.heap.Ns env.locals m
 cells:∀ x c,env.cells.lookup x=some c→c≠env.locals∧∃ v,s.heap.IsCell c v
 fresh:∀ b,Mn env b→av b∧s₀.heap.get? b=none∧¬ av₀ b
 capart:∀ x y c,env.cells.lookup x=some c→env.cells.lookup y=some c→x=y
 names:∀ x v,aA.get σ x=some v→isL sc x=true∧(env.kindOf x=some .local∨(env.kindOf x=some .cell∧∃ c,env.cells.lookup x=some c))
 ownA:∀ x a,bW env σ s.heap x a→av a∧s₀.heap.get? a=none∧¬ av₀ a∧¬ Mn env a
 ownI:∀ x y a,bW env σ s.heap x a→bW env σ s.heap y a→x=y
 loc:∀ x,sc.names.lookup x=some .local→env.kindOf x=some .local
theorem jY{b:Addr}(hf:env.frame=some env.locals):frs (env::l₀) b↔b=env.locals∨frs l₀ b:=by
 unfold frs;rw[List.filterMap_cons,hf,List.mem_cons]
theorem Act.liveMn{σ:aA}{av:Addr→Prop}{s:Shared}(X:Act prog w mg mb base l₀ env sc av₀ s₀ σ av s){b:Addr}(h:Mn env b):∃ o,s.heap.get? b=some o:=by
 rcases h with rfl | ⟨y,h⟩
 ·obtain⟨m,o,es,ep,e,_⟩:=X.ns;exact⟨o,e⟩
 ·obtain⟨_,v,o,e,_⟩:=X.cells y b h;exact⟨o,e⟩
theorem Act.newNot{σ:aA}{av:Addr→Prop}{s:Shared}(X:Act prog w mg mb base l₀ env sc av₀ s₀ σ av s){b:Addr}(h:s.heap.get? b=none):¬ Mn env b∧¬ av b∧¬ av₀ b∧s₀.heap.get? b=none∧¬ frs (env::l₀) b :=
 have hav:¬ av b:=fun x=>by obtain⟨o,e⟩:=X.inv.gnd.avlt b x;rw[h] at e;cases e
 ⟨fun x=>(by obtain⟨o,e⟩:=X.liveMn x;rw[h] at e;cases e),hav,fun x=>hav (X.bas b x),X.k0.non h,fun x=>hav (X.inv.gnd.fav b x)⟩
theorem bV.mono'{l:List Env}{h h':Heap}{av av':Addr→Prop}(hk:∀ b o,¬ av b→h.get? b=some o→h'.get? b=some o)(ha:∀ b o,h.get? b=some o→av' b→av b){u:Value}{v:V}
  (hs:∀ d a,v=.own d→u=.ref a→∀ o,h.get? a=some o→h'.get? a=some o) (r:bV prog w mg l h av u v):bV prog w mg l h' av' u v:=by
 cases v with
 |fz d=>exact Rep.mono hk ha r
 |own d=>obtain⟨a,e,n,r⟩:=r;exact⟨a,e,n,r.mono hk ha (hs d a rfl e)⟩
 |ex x=>obtain⟨e,h,r⟩:=r;exact⟨e,h,r.mono hk ha⟩
theorem FunFrames.to{h h' base:Heap}:∀ {l:List Env},h.FunFrames base l→(∀ b o,frs l b→h.get? b=some o→(∀ vs,o.data≠.fields vs)→∃ o',h'.get? b=some o'∧∀ vs,o'.data≠.fields vs)→h'.FunFrames base l
 := by
 intro l
 induction l with
 |nil=>exact fun _ _=>trivial
 |cons env r ih =>
  intro f k;obtain⟨hk,⟨L,o,hf,hn,ho,hd⟩,hr⟩:=f;obtain⟨o',ho',hd'⟩:=k L o (by unfold frs;rw[List.filterMap_cons,hf];exact List.mem_cons_self) ho hd;exact⟨hk,⟨L,o',hf,hn,ho',hd'⟩,ih hr fun b o f=>k b o (by unfold frs;rw[List.filterMap_cons,hf];exact List.mem_cons_of_mem _ f)⟩
theorem aW.kept{h h':Heap}{x:Str}{u:Value}(v:aW env h x u)(hk:∀ b o,Mn env b→h.get? b=some o→h'.get? b=some o):aW env h' x u:=by
 rcases v with ⟨k,m,hn,e⟩ | ⟨k,c,e,o,e1,e2⟩
 ·exact .inl ⟨k,m,hn.at' fun o e=>hk _ o (.inl rfl) e,e⟩
 ·exact .inr ⟨k,c,e,o,hk c o (.inr ⟨x,e⟩) e1,e2⟩
theorem Act.varBack{σ:aA}{av:Addr→Prop}{s:Shared}{h':Heap}(X:Act prog w mg mb base l₀ env sc av₀ s₀ σ av s){x:Str}{v:V}{u:Value}(hg:aA.get σ x=some (some v))(hk:∀ u,aW env s.heap x u→aW env h' x u)(hv:aW env h' x u):aW env s.heap x u:=by
 obtain⟨u',h1,_⟩:=X.inv.get x v (X.names x _ hg).1 hg;have:=aW.uniq (hk _ h1) hv;exact this▸h1
theorem Act.ownBack{σ:aA}{av:Addr→Prop}{s:Shared}{h':Heap}(X:Act prog w mg mb base l₀ env sc av₀ s₀ σ av s){x:Str}{a:Addr}(hk:∀ u,aW env s.heap x u→aW env h' x u)(h:bW env σ h' x a):bW env σ s.heap x a :=
 let ⟨⟨d,hg⟩,hv⟩:=h;⟨⟨d,hg⟩,X.varBack hg hk hv⟩
theorem K.drop{s s':Shared}(hf:env.frame=some env.locals)(h0:s₀.heap.get? env.locals=none)(x:K l₀ s₀ s)(y:K (env::l₀) s s'):K l₀ s₀ s':=by
 obtain⟨h,t,rfl,k,u⟩:=x;obtain⟨h',t',rfl,k',u'⟩:=y;refine⟨h',t',rfl,fun b o n e=>k' b o (fun f=>?_) (k b o n e),fun b o e=>by obtain⟨_,e1⟩:=u b o e;exact by obtain⟨sl,e2⟩:=u' b _ e1;exact⟨sl,e2⟩⟩;rcases(jY hf).mp f with f | f
 ·simp only[f,h0] at e;exact ns e
 ·exact n f
theorem Act.k{σ:aA}{av:Addr→Prop}{s s':Shared}(X:Act prog w mg mb base l₀ env sc av₀ s₀ σ av s)(k:K (env::l₀) s s'):Act prog w mg mb base l₀ env sc av₀ s₀ σ av s' :=
 { X with
  inv:=X.inv.k k
  k0:=X.k0.drop X.frm (X.fresh _ (.inl rfl)).2.1 k
  ns:=by obtain⟨m,hn⟩:=X.ns;exact⟨m,k.upTo.ns hn⟩
  cells:=fun x c e=>by obtain⟨h1,v,o,h2,h3⟩:=X.cells x c e;exact by obtain⟨_,e'⟩:=k.up h2;exact⟨h1,v,_,e',h3⟩
  ownA:=fun x a h=>X.ownA x a (X.ownBack (fun u h=>h.k k) h)
  ownI:=fun x y a h1 h2=>X.ownI x y a (X.ownBack (fun u h=>h.k k) h1) (X.ownBack (fun u h=>h.k k) h2) }
theorem Gnd.grow{l:List Env}{av S:Addr→Prop}{s:Shared}(G:Gnd prog w mg mb base l av s)(hl:∀ a,S a→∃ o,s.heap.get? a=some o):Gnd prog w mg mb base l (fun b=>av b∨S b) s :=
 { G with fav:=fun b h=>.inl (G.fav b h),avlt:=fun b h=>h.elim (G.avlt b) (hl b),avS:=.inl G.avS }
theorem Act.growS{σ:aA}{av:Addr→Prop}{s s':Shared}{S:Addr→Prop}(X:Act prog w mg mb base l₀ env sc av₀ s₀ σ av s)(k:K (env::l₀) s s')(hn:∀ a,S a→s.heap.get? a=none)(hl:∀ a,S a→∃ o,s'.heap.get? a=some o) :
  Act prog w mg mb base l₀ env sc av₀ s₀ σ (fun b=>av b∨S b) s':=by
 have Y:=X.k k;refine { Y with inv:={ Y.inv with gnd:=Y.inv.gnd.grow hl,get:=fun x v hl' hg=>?_ },bas:=fun b hb=>.inl (X.bas b hb),fresh:=fun b h=>by obtain⟨h1,h2⟩:=X.fresh b h;exact⟨.inl h1,h2⟩,ownA:=fun x a h=>by obtain⟨h1,h2⟩:=Y.ownA x a h;exact⟨.inl h1,h2⟩ };obtain⟨u,h1,h2⟩:=X.inv.get x v hl' hg;refine⟨u,h1.k k,?_⟩;have h3:bV prog w mg (env::l₀) s.heap (fun b=>av b∨S b) u v:=h2.mono' (fun _ _ _ e=>e) (fun b o e hb=>hb.elim id fun hb=>by rw[hn b hb] at e;cases e) fun _ _ _ _ _ e=>e;exact h3.k (fun b h=>.inl (X.inv.gnd.fav b h)) k
theorem aA.get_clear(xs:List Str)(x:Str):∀ σ:aA,aA.get (aA.clear σ xs) x=(aA.get σ x).map fun v=>if xs.contains x then v.map V.clear else v
 | []=>rfl
 | (y,v)::r=>by
  show(if x=y then some (if xs.contains y then v.map V.clear else v) else aA.get (aA.clear r xs) x)=(if x=y then some v else aA.get r x).map _
  by_cases h:x=y
  ·subst h;rw[if_pos rfl,if_pos rfl];rfl
  ·rw[if_neg h,if_neg h];exact aA.get_clear xs x r
theorem yF{xs:List Str}{x:Str}{σ:aA}{v:V}(h:aA.get (aA.clear σ xs) x=some (some v)):∃ v0,aA.get σ x=some (some v0)∧(v=v0∧(xs.contains x=true→∀ d,v0≠.own d)∨xs.contains x=true∧∃ d,v0=.own d∧v=.fz d):=by
 rw[aA.get_clear] at h;refine ocs (aA.get σ x) (fun hg=>?_) fun o hg=>?_
 ·try rewrite[hg]
  rw[hg] at h;exact ns h
 ·try rewrite[hg]
  rw[hg] at h;have h:=Option.some.inj h;cases o with
  |none=>revert h;cases xs.contains x<;>exact fun h=>by exact ns h
  |some v0 =>
   refine⟨v0,rfl,?_⟩
   revert h
   cases xs.contains x with
   |false=>exact fun h=>.inl ⟨(Option.some.inj h).symm,fun h=>by exact bft h⟩
   |true =>
    intro h;have h:v0.clear=v:=Option.some.inj h;cases v0 with
    |own d=>exact .inr ⟨rfl,d,rfl,h.symm⟩
    |_=>exact .inl ⟨h.symm,fun _ _ h=>by cases h⟩
theorem Act.clear{σ:aA}{av:Addr→Prop}{s:Shared}(X:Act prog w mg mb base l₀ env sc av₀ s₀ σ av s)(xs:List Str):∃ av1,Act prog w mg mb base l₀ env sc av₀ s₀ (aA.clear σ xs) av1 s∧∀ b,av1 b→av b:=by
 let Z:Addr→Prop:=fun b=>∃ x,xs.contains x=true∧bW env σ s.heap x b
 have back:∀ x a,bW env (aA.clear σ xs) s.heap x a→xs.contains x=false∧bW env σ s.heap x a:=fun x a ⟨⟨d,h⟩,hv⟩=>by
  obtain⟨v0,hg,⟨e,hc⟩ | ⟨_,d',_,e⟩⟩:=yF h
  ·exact⟨Bool.not_eq_true _▸fun h=>hc h d e.symm,⟨d,e▸hg⟩,hv⟩
  ·cases e
 have nZ:∀ b,(s₀.heap.get? b≠none∨av₀ b∨Mn env b)→¬ Z b:=by
  rintro b hb ⟨x,_,h⟩
  obtain⟨_,h2,h3,h4⟩:=X.ownA x b h;rcases hb with hb | hb | hb
  ·exact hb h2
  ·exact h3 hb
  ·exact h4 hb
 have hmods:s₀.heap.get? sysModules≠none:=fun e=>by
  obtain⟨mm,o,es,ep,h,_⟩:=X.inv.gnd.glo.mods;rw[X.stay0 _ _ h] at e;exact sn e
 refine⟨fun b=>av b∧¬ Z b,{ X with inv:=?_,bas:=fun b hb=>⟨X.bas b hb,nZ b (.inr (.inl hb))⟩,fresh:=fun b h=>by obtain⟨h1,h2⟩:=X.fresh b h;exact⟨⟨h1,nZ b (.inr (.inr h))⟩,h2⟩,names:=fun x v h=>?_,ownA:=fun x a h=>?_,ownI:=fun x y a h1 h2=>X.ownI x y a (back x a h1).2 (back y a h2).2 },fun b h=>h.1⟩
 ·refine { X.inv with gnd:={ X.inv.gnd with fav:=fun b h=>?_,avlt:=fun b hb=>X.inv.gnd.avlt b hb.1,avS:=⟨X.inv.gnd.avS,nZ _ (.inl hmods)⟩ },get:=fun x v hl hg=>?_ }
  ·refine⟨X.inv.gnd.fav b h,nZ b ?_⟩;rcases(jY X.frm).mp h with h | h
   ·exact .inr (.inr (.inl h))
   ·exact .inr (.inl (X.fr0 b h).1)
  ·obtain⟨v0,hg0,⟨rfl,hc⟩ | ⟨hc,d,rfl,rfl⟩⟩:=yF hg
   ·obtain⟨u,h1,h2⟩:=X.inv.get x v hl hg0;exact⟨u,h1,h2.mono' (fun _ _ n e=>e) (fun _ _ _ h=>h.1) fun _ _ _ _ _ e=>e⟩
   ·obtain⟨u,h1,a,rfl,_,r⟩:=X.inv.get x _ hl hg0;exact⟨_,h1,bI.rep (fun h=>h.2 ⟨x,hc,⟨d,hg0⟩,h1⟩) (r.mono (fun _ _ _ e=>e) (fun _ _ _ h=>h.1) fun _ e=>e)⟩
 ·rw[aA.get_clear] at h;obtain⟨v0,hg,_⟩:=Option.map_eq_some_iff.mp h;exact X.names x v0 hg
 ·obtain⟨hc,h⟩:=back x a h;obtain⟨h1,h2⟩:=X.ownA x a h;exact⟨⟨h1,fun hh=>by obtain⟨y,hcy,hy⟩:=hh;exact by rw[X.ownI x y a h hy,hcy] at hc;exact btf hc⟩,h2⟩
theorem Act.weaken{av₁:Addr→Prop}{σ:aA}{av:Addr→Prop}{s:Shared}(X:Act prog w mg mb base l₀ env sc av₁ s₀ σ av s)(h:∀ b,av₀ b→av₁ b)(hf:∀ b,frs l₀ b→av₀ b):Act prog w mg mb base l₀ env sc av₀ s₀ σ av s :=
 { X with fr0:=fun b hb=>⟨hf b hb,(X.fr0 b hb).2⟩,bas:=fun b hb=>X.bas b (h b hb),fresh:=fun b hb=>by obtain⟨h1,h2,h3⟩:=X.fresh b hb;exact⟨h1,h2,fun x=>h3 (h b x)⟩,ownA:=fun x a hb=>by obtain⟨h1,h2,h3,h4⟩:=X.ownA x a hb;exact⟨h1,h2,fun x=>h3 (h a x),h4⟩ }
theorem Act.pin{σ:aA}{av S:Addr→Prop}{s s':Shared}(X:Act prog w mg mb base l₀ env sc av₀ s₀ σ av s)(k:K (env::l₀) s s')(hn:∀ a,S a→s.heap.get? a=none)(hl:∀ a,S a→∃ o,s'.heap.get? a=some o) :
  Act prog w mg mb base l₀ env sc (fun b=>av₀ b∨S b) s₀ σ (fun b=>av b∨S b) s':=by
 have Y:=X.growS k hn hl;refine { Y with fr0:=fun b h=>by obtain⟨h1,h2⟩:=X.fr0 b h;exact⟨.inl h1,h2⟩,bas:=fun b hb=>hb.imp (X.bas b) id,fresh:=fun b h=>by obtain⟨h1,h2,h3⟩:=Y.fresh b h;exact⟨h1,h2,fun x=>x.elim h3 fun x=>(X.newNot (hn b x)).1 h⟩,ownA:=fun x a h=>?_ };obtain⟨h1,h2,h3,h4⟩:=X.ownA x a (X.ownBack (fun u h=>h.k k) h);exact⟨.inl h1,h2,fun x=>x.elim h3 fun x=>(X.newNot (hn a x)).2.1 h1,h4⟩
theorem Act.gndS{σ:aA}{av av' S:Addr→Prop}{s:Shared}{h':Heap}{tk:Nat}(X:Act prog w mg mb base l₀ env sc av₀ s₀ σ av s)(h0:∀ b,S b→s₀.heap.get? b=none)(hs:∀ b o,¬ S b→s.heap.get? b=some o→h'.get? b=some o)
  (hL:∃ m,h'.Ns env.locals m)
  (h1:∀ b,av' b→av b) (h2:∀ b,av b→¬ S b→av' b) (h3:∀ b,av' b→S b→∃ o,h'.get? b=some o) (h4:∀ b,frs (env::l₀) b→av' b):Gnd prog w mg mb base (env::l₀) av' { s with heap:=h',toks:=tk }∧K l₀ s₀ { s with heap:=h',toks:=tk }:=by
 have hbase:∀ b o,base.get? b=some o→¬ S b:=fun b o e h=>by have:=X.stay0 b o e;rw[h0 b h] at this;cases this
 refine⟨{ X.inv.gnd with stay:=fun b o e=>hs b o (hbase b o e) (X.inv.gnd.stay b o e),ff:=?_,fav:=h4,avlt:=fun b hb=>?_,avS:=h2 _ X.inv.gnd.avS ?_ },?_⟩
 ·refine FunFrames.to X.inv.gnd.ff fun b o f e hd=>?_;rcases(jY X.frm).mp f with f | f
  ·obtain⟨m,o',es,ep,e',d',_⟩:=hL;exact⟨o',f▸e',fun vs q=>by rw[d'] at q;cases q⟩
  ·exact⟨o,hs b o (fun x=>by obtain⟨_,o',e'⟩:=X.fr0 b f;rw[h0 b x] at e';cases e') e,hd⟩
 ·by_cases hb':S b
  ·exact h3 b hb hb'
  ·obtain⟨o,e⟩:=X.inv.gnd.avlt b (h1 b hb);exact⟨o,hs b o hb' e⟩
 ·obtain⟨mm,o,es,ep,e,_⟩:=X.inv.gnd.glo.mods;exact hbase _ _ e
 ·obtain⟨h,t,rfl,k,u⟩:=X.k0;exact⟨h',tk,rfl,fun b o n e=>hs b o (fun x=>by rw[h0 b x] at e;cases e) (k b o n e),fun b o e=>by obtain⟨sl,e1⟩:=u b o e;exact⟨sl,hs b _ (fun x=>by rw[h0 b x] at e;cases e) e1⟩⟩
end
end Mine
namespace Mine
open PySem
section
variable {prog:Program} {w:World} {mg mb:Str→Option Value} {base:Heap} {l₀:List Env} {env:Env} {sc:Scope} {av₀:Addr→Prop} {s₀:Shared}
theorem Act.upd{σ σ':aA}{av av' S:Addr→Prop}{s:Shared}{h':Heap}{tk:Nat}(X:Act prog w mg mb base l₀ env sc av₀ s₀ σ av s)(h0:∀ b,S b→s₀.heap.get? b=none)(hs:∀ b o,¬ S b→s.heap.get? b=some o→h'.get? b=some o)
  (hL:∃ m,h'.Ns env.locals m) (hC:∀ x c,env.cells.lookup x=some c→∃ v,h'.IsCell c v) (h1:∀ b,av' b→av b) (h2:∀ b,av b→¬ S b→av' b) (h3:∀ b,av' b→S b→∃ o,h'.get? b=some o) (h4:∀ b,av₀ b→av' b) (hM:∀ b,Mn env b→av' b)
  (hN:∀ x v,aA.get σ' x=some v→∃ v0,aA.get σ x=some v0) (hG:∀ x v,isL sc x=true→aA.get σ' x=some (some v)→∃ u,aW env h' x u∧bV prog w mg (env::l₀) h' av' u v)
  (hA:∀ x a,bW env σ' h' x a→av' a∧s₀.heap.get? a=none∧¬ av₀ a∧¬ Mn env a) (hI:∀ x y a,bW env σ' h' x a→bW env σ' h' y a→x=y):Act prog w mg mb base l₀ env sc av₀ s₀ σ' av' { s with heap:=h',toks:=tk }:=by
 have g:=X.gndS (tk:=tk) h0 hs hL h1 h2 h3 fun b f=>((jY X.frm).mp f).elim (fun f=>hM b (.inl f)) fun f=>h4 b (X.fr0 b f).1;exact { X with inv:={ X.inv with gnd:=g.1,get:=hG },k0:=g.2,bas:=h4,ns:=hL,cells:=fun x c e=>⟨(X.cells x c e).1,hC x c e⟩,fresh:=fun b h=>⟨hM b h,(X.fresh b h).2⟩,names:=fun x v h=>by obtain⟨v0,e⟩:=hN x v h;exact X.names x v0 e,ownA:=hA,ownI:=hI }
theorem Act.wildS{σ:aA}{av av' S:Addr→Prop}{s:Shared}{h':Heap}{tk:Nat}(X:Act prog w mg mb base l₀ env sc av₀ s₀ σ av s)(hS:∀ b,S b→av b)(h0:∀ b,S b→s₀.heap.get? b=none)(hM:∀ b,Mn env b→¬ S b)
  (ho:∀ x a,bW env σ s.heap x a→¬ S a) (hs:∀ b o,¬ S b→s.heap.get? b=some o→h'.get? b=some o)
  (h1:∀ b,av' b→av b) (h2:∀ b,av b→¬ S b→av' b) (h3:∀ b,av' b→S b→∃ o,h'.get? b=some o) (h4:∀ b,av₀ b→av' b):Act prog w mg mb base l₀ env sc av₀ s₀ σ av' { s with heap:=h',toks:=tk }:=by
 have hvar:∀ y u,aW env s.heap y u→aW env h' y u:=fun y u h=>h.kept fun b o m e=>hs b o (hM b m) e;refine X.upd h0 hs (by obtain⟨m,hn⟩:=X.ns;exact⟨m,hn.at' fun o e=>hs _ o (hM _ (.inl rfl)) e⟩) (fun y c e=>by obtain⟨_,v,o,e1,e2⟩:=X.cells y c e;exact⟨v,o,hs c o (hM c (.inr ⟨y,e⟩)) e1,e2⟩) h1 h2 h3 h4 (fun b h=>h2 b (X.fresh b h).1 (hM b h)) (fun x v h=>⟨v,h⟩) (fun x v hl hg=>?_)
  (fun x a h=>?_) fun x y a hx hy=>X.ownI x y a (X.ownBack (hvar x) hx) (X.ownBack (hvar y) hy)
 ·obtain⟨u,g1,g2⟩:=X.inv.get x v hl hg;refine⟨u,hvar _ _ g1,g2.mono' (fun b o n e=>hs b o (fun h=>n (hS b h)) e) (fun b _ _ h=>h1 b h) fun d a e1 e2 o e=>hs a o (ho x a ⟨⟨d,e1▸hg⟩,e2▸g1⟩) e⟩
 ·have h:=X.ownBack (hvar x) h;obtain⟨q1,q2⟩:=X.ownA x a h;exact⟨h2 a q1 (ho x a h),q2⟩
theorem aA.get_set(x:Str)(u:V)(y:Str):∀ σ:aA,aA.get (aA.set σ x u) y=if y=x then (aA.get σ x).map (fun _=>some u) else aA.get σ y
 | []=>by
  show none=if y=x then none else none
  split<;>rfl
 | (z,v)::r=>by
  have ih:=aA.get_set x u y r
  by_cases hxz:x=z
  ·subst hxz;have e:aA.set ((x,v)::r) x u=(x,some u)::r:=if_pos rfl;rw[e]
   by_cases hy:y=x
   ·subst hy;rw[aA.get_cons_eq,if_pos rfl,aA.get_cons_eq];rfl
   ·rw[aA.get_cons_ne hy,if_neg hy,aA.get_cons_ne hy]
  ·have e:aA.set ((z,v)::r) x u=(z,v)::aA.set r x u:=if_neg hxz;rw[e,aA.get_cons_ne hxz]
   by_cases hy:y=z
   ·subst hy;rw[aA.get_cons_eq,if_neg (fun h=>hxz h.symm),aA.get_cons_eq]
   ·rw[aA.get_cons_ne hy,ih,aA.get_cons_ne hy]
theorem iF{σ:aA}{x y:Str}{u:V}{o:Option V}(hy:y≠x)(h:aA.get (aA.set σ x u) y=some o):aA.get σ y=some o:=by
 rw[aA.get_set,if_neg hy] at h;exact h
theorem qK{σ:aA}{x:Str}{u w:V}(h:aA.get (aA.set σ x u) x=some (some w)):w=u:=by
 rw[aA.get_set,if_pos rfl] at h;refine ocs (aA.get σ x) (fun hg=>?_) fun o hg=>?_
 ·try rewrite[hg]
  rw[hg] at h;exact ns h
 ·try rewrite[hg]
  rw[hg] at h;cases h;rfl
theorem yG{σ:aA}{x y:Str}{u:V}{o:Option V}(h:aA.get (aA.set σ x u) y=some o):∃ v0,aA.get σ y=some v0:=by
 by_cases hy:y=x
 ·subst hy;rw[aA.get_set,if_pos rfl] at h;refine ocs (aA.get σ y) (fun hg=>?_) fun o hg=>?_
  ·try rewrite[hg]
   rw[hg] at h;exact ns h
  ·try rewrite[hg]
   exact⟨o,rfl⟩
 ·exact⟨o,iF hy h⟩
theorem Act.put1{σ:aA}{av:Addr→Prop}{s:Shared}{x:Str}{u:Value}{v:V}{p:Addr}{h':Heap}{tk:Nat}(X:Act prog w mg mb base l₀ env sc av₀ s₀ σ av s)(hv:bV prog w mg (env::l₀) s.heap av u v)
  (ho:∀ d a,v=.own d→u=.ref a→av a∧s₀.heap.get? a=none∧¬ av₀ a∧¬ Mn env a∧∀ y,y≠x→¬ bW env σ s.heap y a) (hp:Mn env p) (hs:Heap.SameBut p s.heap h') (hns:∃ m,h'.Ns env.locals m) (hcells:∀ y c,env.cells.lookup y=some c→∃ v,h'.IsCell c v)
  (hvx:aW env h' x u) (hvy:∀ y w',y≠x→aW env s.heap y w'→aW env h' y w'):Act prog w mg mb base l₀ env sc av₀ s₀ (aA.set σ x v) av { s with heap:=h',toks:=tk }:=by
 have kept:∀ b o,¬ b=p→s.heap.get? b=some o→h'.get? b=some o:=fun b o hb e=>by rw[hs.2 b hb];exact e
 obtain⟨p1,p2,p3⟩:=X.fresh p hp;have back:∀ y a,bW env (aA.set σ x v) h' y a→(y=x∧(∃ d,v=.own d)∧u=.ref a)∨(y≠x∧bW env σ s.heap y a):=fun y a ⟨⟨d,hg⟩,hv'⟩=>by
  by_cases hy:y=x
  ·subst hy;exact .inl ⟨rfl,⟨d,(qK hg).symm⟩,aW.uniq hvx hv'⟩
  ·have hg:=iF hy hg;exact .inr ⟨hy,⟨d,hg⟩,X.varBack hg (fun u=>hvy y u hy) hv'⟩
 refine X.upd (S:=fun b=>b=p) (fun b h=>h▸p2) kept hns hcells (fun _ h=>h) (fun _ h _=>h) (fun b _ h=>?_) X.bas (fun b h=>(X.fresh b h).1) (fun _ _ h=>yG h) (fun y w' hl h=>?_) (fun y a h=>?_) fun y z a h1 h2=>?_
 ·subst h;rcases hp with rfl | ⟨y,h⟩
  ·obtain⟨m,o,es,ep,e,_⟩:=hns;exact⟨o,e⟩
  ·obtain⟨v,o,e,_⟩:=hcells y b h;exact⟨o,e⟩
 ·have hk:∀ b o,¬ av b→s.heap.get? b=some o→h'.get? b=some o:=fun b o n e=>kept b o (fun h=>n (h▸p1)) e
  by_cases hy:y=x
  ·subst hy;cases qK h;exact⟨u,hvx,hv.mono' hk (fun _ _ _ h=>h) fun d a e1 e2 o e=>kept a o (fun h=>(ho d a e1 e2).2.2.2.1 (h▸hp)) e⟩
  ·have h:=iF hy h;obtain⟨u',h1,h2⟩:=X.inv.get y w' hl h;exact⟨u',hvy y u' hy h1,h2.mono' hk (fun _ _ _ h=>h) fun d a e1 e2 o e=>kept a o (fun h'=>(X.ownA y a ⟨⟨d,e1▸h⟩,e2▸h1⟩).2.2.2 (h'▸hp)) e⟩
 ·rcases back y a h with ⟨_,⟨d,e1⟩,e2⟩ | ⟨_,h⟩
  ·obtain⟨q1,q2,q3,q4,_⟩:=ho d a e1 e2;exact⟨q1,q2,q3,q4⟩
  ·exact X.ownA y a h
 ·rcases back y a h1 with ⟨ey,⟨d,e1⟩,e2⟩ | ⟨ny,h1⟩
  ·rcases back z a h2 with ⟨ez,_⟩ | ⟨nz,h2⟩
   ·rw[ey,ez]
   ·exact absurd h2 ((ho d a e1 e2).2.2.2.2 z nz)
  ·rcases back z a h2 with ⟨ez,⟨d,e1⟩,e2⟩ | ⟨nz,h2⟩
   ·exact absurd h1 ((ho d a e1 e2).2.2.2.2 y ny)
   ·exact X.ownI y z a h1 h2
theorem Act.put{A:Around}{E:Value→Shared→Prop}{σ:aA}{av:Addr→Prop}{s:Shared}{x:Str}{v0:Option V}{u:Value}{v:V}{Q:Unit→Shared→Prop}(X:Act prog w mg mb base l₀ env sc av₀ s₀ σ av s)(hx:aA.get σ x=some v0)(hv:bV prog w mg (env::l₀) s.heap av u v)
  (ho:∀ d a,v=.own d→u=.ref a→av a∧s₀.heap.get? a=none∧¬ av₀ a∧¬ Mn env a∧∀ y,y≠x→¬ bW env σ s.heap y a)
  (hq:∀ s',Act prog w mg mb base l₀ env sc av₀ s₀ (aA.set σ x v) av s'→(∀ b o,¬ Mn env b→s.heap.get? b=some o→s'.heap.get? b=some o)→aW env s'.heap x u→(∀ y w',y≠x→aW env s.heap y w'→aW env s'.heap y w')→Q () s'):wpAny (model prog w) A (storeName env x u) Q E s:=by
 obtain⟨hlx,hkx⟩:=X.names x v0 hx;have hp:(env.scope.kind==.class||(env.scope.kind==.module&&env.locals != env.globals))=false:=by rw[X.inv.kind];rfl
 have fin:∀ (p:Addr) (h':Heap) (tk:Nat),Mn env p→Heap.SameBut p s.heap h'→(∃ m,h'.Ns env.locals m)→(∀ y c,env.cells.lookup y=some c→∃ v,h'.IsCell c v) →
   aW env h' x u→(∀ y w',y≠x→aW env s.heap y w'→aW env h' y w')→Q () { s with heap:=h',toks:=tk }:=fun p h' tk m hs hns hc hvx hvy =>
  hq _ (X.put1 hv ho m hs hns hc hvx hvy) (fun b o n e=>by rw[hs.2 b fun h=>n (h▸m)];exact e) hvx hvy
 obtain⟨m,hn⟩:=X.ns;rcases hkx with hk | ⟨hk,c,hc⟩
 ·refine wpAny_storeName_local hk hn (fun h' hn' hs'=>?_) hp;refine fin env.locals h' _ (.inl rfl) hs' ⟨_,hn'⟩ (fun y c e=>?_) (.inl ⟨hk,_,hn',by simp⟩) fun y w' hy hv'=>?_
  ·obtain⟨q3,v,o,e1,e2⟩:=X.cells y c e;exact⟨v,o,by rw[hs'.2 c q3];exact e1,e2⟩
  ·rcases hv' with ⟨k',m',hn2,e⟩ | ⟨k',c',e,o,e1,e2⟩
   ·have:m'=m:=hn2.eq_nsMap.trans hn.eq_nsMap.symm;subst this;exact .inl ⟨k',_,hn',by simp[hy,e]⟩
   ·exact .inr ⟨k',c',e,o,by rw[hs'.2 c' (X.cells y c' e).1];exact e1,e2⟩
 ·obtain⟨q3,v1,q4⟩:=X.cells x c hc;refine wpAny_storeName_cell X.inv.kind hk hc q4 fun h' hc' hs'=>?_;have hn':h'.Ns env.locals m:=hn.at' fun o e=>by rw[hs'.2 _ (fun h=>q3 h.symm)];exact e
  refine fin c h' _ (.inr ⟨x,hc⟩) hs' ⟨m,hn'⟩ (fun y c' e=>?_) (.inr ⟨.inl hk,c,hc,hc'⟩) fun y w' hy hv'=>?_
  ·by_cases hcc:c'=c
   ·subst hcc;exact⟨_,hc'⟩
   ·obtain⟨_,v,o,e1,e2⟩:=X.cells y c' e;exact⟨v,o,by rw[hs'.2 c' hcc];exact e1,e2⟩
  ·rcases hv' with ⟨k',m',hn2,e⟩ | ⟨k',c',e,o,e1,e2⟩
   ·have:m'=m:=hn2.eq_nsMap.trans hn.eq_nsMap.symm;subst this;exact .inl ⟨k',_,hn',e⟩
   ·have hcc:c'≠c:=fun h=>hy (X.capart y x c (h▸e) hc);exact .inr ⟨k',c',e,o,by rw[hs'.2 c' hcc];exact e1,e2⟩
theorem bI.live{h:Heap}{av:Addr→Prop}{a:Addr}{d:PyData}(r:bI prog w h av a d):∃ o,h.get? a=some o:=by
 cases d with
 |list ds=>obtain⟨vs,⟨n,e⟩,_⟩:=r;exact⟨_,e⟩
 |dict ds=>obtain⟨kvs,⟨o,es,ep,e,_⟩,_⟩:=r;exact⟨_,e⟩
 |_=>exact r.elim
theorem Act.mut{σ:aA}{av:Addr→Prop}{s:Shared}{x:Str}{d d':PyData}{a:Addr}{h':Heap}{tk:Nat}(X:Act prog w mg mb base l₀ env sc av₀ s₀ σ av s)(hx:aA.get σ x=some (some (.own d)))(hv:aW env s.heap x (.ref a))
  (hs:Heap.SameBut a s.heap h') (hb:bI prog w h' av a d'):Act prog w mg mb base l₀ env sc av₀ s₀ (aA.set σ x (.own d')) av { s with heap:=h',toks:=tk }:=by
 have hox:bW env σ s.heap x a:=⟨⟨d,hx⟩,hv⟩
 obtain⟨q1,q2,q3,q4⟩:=X.ownA x a hox;have kept:∀ b o,¬ b=a→s.heap.get? b=some o→h'.get? b=some o:=fun b o hb e=>by rw[hs.2 b hb];exact e
 have nM:∀ b,Mn env b→¬ b=a:=fun b m h=>q4 (h▸m);have hvar:∀ y u,aW env s.heap y u→aW env h' y u:=fun y u h=>h.kept fun b o m e=>kept b o (nM b m) e;have back:∀ y b,bW env (aA.set σ x (.own d')) h' y b→bW env σ s.heap y b:=fun y b ⟨⟨e,hg⟩,h⟩=>by
  by_cases hy:y=x
  ·subst hy;exact X.ownBack (hvar y) ⟨⟨d,hx⟩,h⟩
  ·exact X.ownBack (hvar y) ⟨⟨e,iF hy hg⟩,h⟩
 refine X.upd (S:=fun b=>b=a) (fun b h=>h▸q2) kept (by obtain⟨m,hn⟩:=X.ns;exact⟨m,hn.at' fun o e=>kept _ o (nM _ (.inl rfl)) e⟩) (fun y c e=>by obtain⟨_,v,o,e1,e2⟩:=X.cells y c e;exact⟨v,o,kept c o (nM c (.inr ⟨y,e⟩)) e1,e2⟩) (fun _ h=>h) (fun _ h _=>h) (fun b _ h=>h▸hb.live) X.bas
  (fun b h=>(X.fresh b h).1) (fun _ _ h=>yG h) (fun y w' hl h=>?_) (fun y b h=>X.ownA y b (back y b h)) fun y z b h1 h2=>X.ownI y z b (back y b h1) (back z b h2)
 by_cases hy:y=x
 ·subst hy;cases qK h;obtain⟨u,h1,a',e,f,_⟩:=X.inv.get y _ hl hx;cases e;cases aW.uniq h1 hv;exact⟨.ref a,hvar _ _ hv,a,rfl,f,hb⟩
 ·have h:=iF hy h;obtain⟨u',h1,h2⟩:=X.inv.get y w' hl h;exact⟨u',hvar _ _ h1,h2.mono' (fun b o n e=>kept b o (fun h=>n (h▸q1)) e) (fun _ _ _ h=>h) fun e b e1 e2 o eo=>kept b o (fun hba=>hy (X.ownI y x a ⟨⟨e,e1▸h⟩,hba▸e2▸h1⟩ hox)) eo⟩
end
end Mine
namespace Mine
open PySem
section
variable {prog:Program} {w:World} {mg mb:Str→Option Value} {base:Heap} {n:Nat} {hd:Bool} {l₀:List Env} {env:Env} {sc:Scope} {av₀:Addr→Prop} {s₀:Shared} {σ:aA} {av:Addr→Prop} {s:Shared}
structure Fr(l:List Env)(av₀:Addr→Prop)(s:Shared)(av:Addr→Prop)(s':Shared)(av':Addr→Prop):Prop where
 keep:∀ b o,s.heap.get? b=some o→¬ av b→s'.heap.get? b=some o
 grow:∀ b o,s.heap.get? b=some o→av' b→av b
 pins:∀ b o,av₀ b→¬ frs l b→s.heap.get? b=some o→s'.heap.get? b=some o
theorem Fr.tr{l:List Env}{s s' s'':Shared}{av av' av'':Addr→Prop}(x:Fr l av₀ s av s' av')(y:Fr l av₀ s' av' s'' av''):Fr l av₀ s av s'' av'' where
 keep:=fun b o e hb=>y.keep b o (x.keep b o e hb) fun h=>hb (x.grow b o e h)
 grow:=fun b o e h=>Classical.byContradiction fun hb=>hb (x.grow b o e (y.grow b o (x.keep b o e hb) h))
 pins:=fun b o hb n e=>y.pins b o hb n (x.pins b o hb n e)
theorem Fr.rf(l:List Env)(s:Shared)(av:Addr→Prop):Fr l av₀ s av s av:=⟨fun _ _ e _=>e,fun _ _ _ h=>h,fun _ _ _ _ e=>e⟩
theorem Fr.sub{l:List Env}{s:Shared}{av av1:Addr→Prop}(h:∀ b,av1 b→av b):Fr l av₀ s av s av1:=⟨fun _ _ e _=>e,fun b _ _ x=>h b x,fun _ _ _ _ e=>e⟩
theorem Fr.weaken{l:List Env}{av₁:Addr→Prop}{s s':Shared}{av av':Addr→Prop}(h:∀ b,av₀ b→av₁ b)(x:Fr l av₁ s av s' av'):Fr l av₀ s av s' av':=⟨x.keep,x.grow,fun b o hb n e=>x.pins b o (h b hb) n e⟩
theorem Fr.ofK{l:List Env}{s s':Shared}{av:Addr→Prop}(fav:∀ b,frs l b→av b)(k:K l s s'):Fr l av₀ s av s' av:=⟨fun b o e n=>k.at (fun f=>n (fav b f)) e,fun _ _ _ h=>h,fun b o _ n e=>k.at n e⟩
theorem Act.frk(X:Act prog w mg mb base l₀ env sc av₀ s₀ σ av s){s':Shared}(k:K (env::l₀) s s'):Fr (env::l₀) av₀ s av s' av:=Fr.ofK X.inv.gnd.fav k
theorem Act.frPut(X:Act prog w mg mb base l₀ env sc av₀ s₀ σ av s){s':Shared}(f:∀ b o,¬ Mn env b→s.heap.get? b=some o→s'.heap.get? b=some o):Fr (env::l₀) av₀ s av s' av :=
 ⟨fun b o e n=>f b o (fun m=>n (X.fresh b m).1) e,fun _ _ _ h=>h,fun b o hb _ e=>f b o (fun m=>(X.fresh b m).2.2 hb) e⟩
theorem Act.frMut(X:Act prog w mg mb base l₀ env sc av₀ s₀ σ av s){s':Shared}{x:Str}{d:PyData}{a:Addr}(hx:aA.get σ x=some (some (.own d)))(hv:aW env s.heap x (.ref a))(hs:Heap.SameBut a s.heap s'.heap):Fr (env::l₀) av₀ s av s' av :=
 have hk:∀ b o,b≠a→s.heap.get? b=some o→s'.heap.get? b=some o:=fun b o hb e=>by rw[hs.2 b hb];exact e
 have q:=X.ownA x a ⟨⟨d,hx⟩,hv⟩
 ⟨fun b o e hb=>hk b o (fun h=>hb (h▸q.1)) e,fun _ _ _ h=>h,fun b o hb _ e=>hk b o (fun h=>q.2.2.1 (h▸hb)) e⟩
noncomputable def Mk(h:Heap)(e:Addr):Prop:=∃ oe vs,h.get? e=some oe∧oe.data=.fields vs∧vs[1]?=some .none
inductive Upx(prog:Program)(w:World)(mg:Str→Option Value)(base:Heap)(l₀:List Env)(env:Env)(s₀:Shared)(av₀:Addr→Prop)(x:X)(v:Value)(s':Shared):Prop where
 |mk (k:K l₀ s₀ s') (ff:s'.heap.FunFrames base (env::l₀)) (st:∀ b o,base.get? b=some o→s'.heap.get? b=some o) (e:Addr) (a:v=.ref e) (n:s₀.heap.get? e=none) (xa:ExAt prog w mg s'.heap (fun b=>av₀ b∨frs (env::l₀) b) e x) (t:Tb s₀ s'.heap e .none∨Mk s'.heap e):Upx prog w mg base l₀ env s₀ av₀ x v s'
theorem Upx.weaken{av₁:Addr→Prop}{x:X}{v:Value}{s':Shared}(h:∀ b,av₀ b→av₁ b)(u:Upx prog w mg base l₀ env s₀ av₁ x v s'):Upx prog w mg base l₀ env s₀ av₀ x v s' :=
 by obtain⟨h1,h2,h3,e,h4,h5,h6,h7⟩:=u;exact⟨h1,h2,h3,e,h4,h5,h6.mono (fun _ _ _ e=>e) fun b _ _ x=>x.imp (h b) id,h7⟩
theorem Act.up(X:Act prog w mg mb base l₀ env sc av₀ s₀ σ av s){x:Mine.X}{v:Value}{s':Shared}(f:Fly prog w mg (env::l₀) s av x v s'):Upx prog w mg base l₀ env s₀ av₀ x v s':=by
 obtain⟨k,e,h1,h2,h3,oe,vs,T,oT,ts,g1,g2,g3,g4,g5,g6,g7,g8⟩:=f;have Y:=X.k k;exact⟨Y.k0,Y.inv.gnd.ff,Y.inv.gnd.stay,e,h1,X.k0.non h2,h3.mono (fun _ _ _ e=>e) fun b _ _ x=>x.elim (X.bas b) (X.inv.gnd.fav b),.inl ⟨oe,vs,T,oT,ts,g1,g2,g3,X.k0.non g4,g5,g6,g7,g8⟩⟩
variable (prog w mg mb base) in
noncomputable def aQ(n:Nat)(hd:Bool)(l₀:List Env)(env:Env)(sc:Scope)(s₀:Shared)(σ:aA)(t:Sem Flow)(r:KN→KR→R V):Prop :=
 ∀ (av₀:Addr→Prop) (A:Around) (s:Shared) (av:Addr→Prop),Room n hd (env::l₀) A→Act prog w mg mb base l₀ env sc av₀ s₀ σ av s →
  ∀ {kn:KN} {kr:KR} {fin:R V} {Q:Flow→Shared→Prop} {E:Value→Shared→Prop},r kn kr=fin→fin≠.no→PassesOwn (model prog w) A env E →
  (∀ s' σ' av',Act prog w mg mb base l₀ env sc av₀ s₀ σ' av' s'→Fr (env::l₀) av₀ s av s' av'→kn σ'=fin→Q .next s') →
  (∀ v s' u,K l₀ s₀ s'→aY prog w s₀ s'.heap av₀ v u→kr u=fin→Q (.ret v) s') →
  (∀ x v s',fin=.exc x→Upx prog w mg base l₀ env s₀ av₀ x v s'→E v s')→wpAny (model prog w) A t Q E s
theorem aQ.no{t:Sem Flow}:aQ prog w mg mb base n hd l₀ env sc s₀ σ t fun _ _=>.no:=fun _ _ _ _ _ _ _ _ _ _ _ hf hne _=>absurd hf.symm hne
theorem iG{rec:Stmt→aA→KN→KR→R V}:∀ {b:List Stmt} {σ:aA},(∀ st∈b,∀ σ,aQ prog w mg mb base n hd l₀ env sc s₀ σ (exec st env) (rec st σ))→aQ prog w mg mb base n hd l₀ env sc s₀ σ (execs b env) (blk rec b σ)
 | [],σ,_=>fun av₀ A s av hA X _ _ _ _ _ hf hne hp hn hr he=>wpAny_execs_nil (hn s σ av X (Fr.rf _ s av) hf)
 |st::r,σ,h=>fun av₀ A s av hA X kn kr fin Q E hf hne hp hn hr he=>by
  refine wpAny_execs_cons (h st List.mem_cons_self σ av₀ A s av hA X hf hne hp (fun s' σ' av' Y fr e=>?_) (fun v s' u k r e=>hr v s' u k r e) he);exact iG (b:=r) (fun st hst=>h st (List.mem_cons_of_mem _ hst)) av₀ A s' av' hA Y e hne hp (fun s'' σ'' av'' Z fr' e'=>hn s'' σ'' av'' Z (fr.tr fr') e') hr he
theorem aY.out(X:Act prog w mg mb base l₀ env sc av₀ s₀ σ av s){h:Heap}{v:Value}{u:V}(r:aY prog w s h av v u):aY prog w s₀ h av₀ v u:=by
 have r':=r.back X.k0;cases u with
 |ex x=>exact r
 |fz d=>exact(show Rep prog w h av v d from r).mono (fun _ _ _ e=>e) fun b _ _ x=>X.bas b x
 |own d =>
  obtain⟨a,e,hn,rb⟩:=r';exact⟨a,e,hn,rb.mono (fun _ _ _ e=>e) (fun b _ _ x=>x.imp (X.bas b) id) fun _ e=>e⟩
theorem aE.st{e:Expr}{r:R V}(h:aE prog w mg mb base n hd (env::l₀) sc σ e r){A:Around}(hA:Room n hd (env::l₀) A)(X:Act prog w mg mb base l₀ env sc av₀ s₀ σ av s){k:V→R V}{fin:R V}{Q:Value→Shared→Prop}{E:Value→Shared→Prop}(hf:rb r k=fin)(hne:fin≠.no)
  (hq:∀ v s' u,K (env::l₀) s s'→aY prog w s s'.heap av v u→k u=fin→Q v s') (he:∀ x v s',fin=.exc x→Upx prog w mg base l₀ env s₀ av₀ x v s'→E v s'):wpAny (model prog w) A (eval e env) Q E s :=
 h A env s av hA X.inv ⟨hf,hne⟩ hq fun x v s' e f=>he x v s' e (X.up f)
theorem yH{e:Expr}{pos:Pos}{xs:List Str}{p:R V}(h:aE prog w mg mb base n hd (env::l₀) sc (aA.clear σ xs) e p):aQ prog w mg mb base n hd l₀ env sc s₀ σ (exec (.Return (some e) pos) env) fun _ kr=>rb p kr:=by
 intro av₀ A s av hA X kn kr fin Q E hf hne hp hn hr he;obtain⟨av1,Y,_⟩:=X.clear xs;exact wpAny_Return_some (h.st hA Y hf hne (fun v s' u k r e=>hr v s' u (Y.k k).k0 (r.out Y) e) he)
theorem yI:∀ σ:aA,aA.clear σ []=σ
 | []=>rfl
 | (_,_)::r=>congrArg _ (yI r)
theorem Ku{ev:EV}{F:Nat}{e:Expr}{pos:Pos}(h:∀ σ,aE prog w mg mb base n hd (env::l₀) sc σ e (ev σ e)):aQ prog w mg mb base n hd l₀ env sc s₀ σ (exec (.Return (some e) pos) env) fun _ kr=>pJ ev F sc σ e kr:=by
 unfold pJ;refine ocs (bB e) (fun hx=>?_) fun x hx=>?_
 ·try rewrite[hx]
  exact yH (h _)
 ·try rewrite[hx]
  obtain⟨p,rfl⟩:=cW hx;show aQ prog w mg mb base n hd l₀ env sc s₀ σ _ fun _ kr=>match jN sc σ x with
   |some d=>kr (.own d)
   |none=>rb (ev σ (.Name x p)) kr
  refine ocs (jN sc σ x) (fun ho=>?_) fun d ho=>?_
  ·try rewrite[ho]
   exact yH (xs:=[]) (p:=ev σ (.Name x p)) ((yI σ).symm▸h σ)
  ·try rewrite[ho]
   intro av₀ A s av hA X kn kr fin Q E hf hne hp hn hr he;obtain⟨hl,hg⟩:=wX ho;obtain⟨u,h1,a,rfl,_,h2⟩:=X.inv.get x _ hl hg;obtain⟨q1,q2,_⟩:=X.ownA x a ⟨⟨d,hg⟩,h1⟩;exact wpAny_Return_some (fP X.inv hl h1 (hr _ _ (.own d) X.k0 ⟨a,rfl,q2,h2.mono (fun _ _ _ e=>e) (fun b _ _ h=>h.elim (X.bas b) fun h=>h▸q1) fun _ e=>e⟩ hf))
theorem fR{x:Str}{u:V}{σ σ':aA}(h:cQ x u σ=.ok σ'):∃ v0,aA.get σ x=some v0∧σ'=aA.set σ x u:=by
 unfold cQ at h;refine ocs (aA.get σ x) (fun hg=>?_) fun v0 hg=>?_
 ·try rewrite[hg]
  rw[hg] at h;exact pno h
 ·try rewrite[hg]
  rw[hg] at h;obtain rfl:=pi h;exact⟨v0,rfl,rfl⟩
theorem cX{α:Type}{p:P α}{k:α→R V}{fin:R V}(h:rb (ofP p) k=fin)(hne:fin≠.no):∃ a,p=.ok a∧k a=fin:=Fin.p ⟨h,hne⟩
theorem Act.bindVal{A:Around}{E:Value→Shared→Prop}{s₁:Shared}{x:Str}{v0:Option V}{v:Value}{u:V}{Q:Unit→Shared→Prop}(X:Act prog w mg mb base l₀ env sc av₀ s₀ σ av s)(k:K (env::l₀) s s₁)(r:aY prog w s s₁.heap av v u)
  (hx:aA.get σ x=some v0) (hq:∀ s' av',Act prog w mg mb base l₀ env sc av₀ s₀ (aA.set σ x u) av' s'→Fr (env::l₀) av₀ s av s' av'→Q () s'):wpAny (model prog w) A (storeName env x v) Q E s₁:=by
 cases u with
 |ex x=>exact r.elim
 |fz d=>exact(X.k k).put hx (show bV prog w mg (env::l₀) s₁.heap av v (.fz d) from r) (fun _ _ e=>by cases e) fun s' Y f _ _=>hq s' av Y ((X.frk k).tr ((X.k k).frPut f))
 |own d =>
  obtain⟨a,rfl,hn,rb⟩:=r;have Y:=X.growS (S:=fun b=>b=a) k (fun b h=>h▸hn) fun b h=>h▸rb.live;obtain⟨n1,n2,n3,n4,n5⟩:=X.newNot hn;have g:Fr (env::l₀) av₀ s av s₁ (fun b=>av b∨b=a):=⟨(X.frk k).keep,fun b o e h=>h.elim id (fun h=>by simp only[h,hn] at e;cases e),(X.frk k).pins⟩
  refine Y.put hx (show bV prog w mg (env::l₀) s₁.heap _ (.ref a) (.own d) from ⟨a,rfl,n5,rb⟩) (fun d' a' e1 e2=>?_) fun s' Z f _ _=>hq s' _ Z (g.tr (Y.frPut f));cases e2;exact⟨.inr rfl,n4,n3,n1,fun y _ h=>n2 (X.ownA y a (X.ownBack (fun u h=>h.k k) h)).1⟩
theorem Kv{e:Expr}{x:Str}{p pos:Pos}{xs:List Str}{q:R V}(hs:swapsWith e (some (.Name x p)) pos.line env=pure false)(h:aE prog w mg mb base n hd (env::l₀) sc (aA.clear σ xs) e q) :
  aQ prog w mg mb base n hd l₀ env sc s₀ σ (exec (.Assign [.Name x p] e pos) env) fun kn _=>rb q fun v=>rb (ofP (cQ x v (aA.clear σ xs))) kn:=by
 intro av₀ A s av hA X kn kr fin Q E hf hne hp hn hr he;obtain⟨av1,Y,hsub⟩:=X.clear xs;refine wpAny_Assign_Name (h.st hA Y hf hne (fun v s' u k r e=>?_) he) hs;obtain⟨σ',hσ,e⟩:=cX e hne;obtain⟨v0,hg,rfl⟩:=fR hσ;exact Y.bindVal k r hg fun s'' av' Z fr=>hn _ _ _ Z ((Fr.sub hsub).tr fr) e
theorem Kw{t:Expr}{b o:List Stmt}{pos:Pos}{xs:List Str}{q:R V}{kb ko:KN→KR→R V}(h:bO prog w mg mb base n hd (env::l₀) sc (aA.clear σ xs) t q)
  (hb:aQ prog w mg mb base n hd l₀ env sc s₀ (aA.clear σ xs) (execs b env) kb) (ho:aQ prog w mg mb base n hd l₀ env sc s₀ (aA.clear σ xs) (execs o env) ko) :
  aQ prog w mg mb base n hd l₀ env sc s₀ σ (exec (.If t b o pos) env) fun kn kr=>rb (tst q) fun c=>if c then kb kn kr else ko kn kr:=by
 intro av₀ A s av hA X kn kr fin Q E hf hne hp hn hr he;obtain⟨av1,Y,hsub⟩:=X.clear xs;refine wpAny_If (h A env s av1 hA Y.inv ⟨hf,hne⟩ (fun c s' k e=>?_) fun x v s' e f=>he x v s' e (Y.up f));have fr:Fr (env::l₀) av₀ s av s' av1:=(Fr.sub hsub).tr (Y.frk k);cases c with
 |true=>exact hb av₀ A s' av1 hA (Y.k k) e hne hp (fun s'' σ' av' Z f e'=>hn s'' σ' av' Z (fr.tr f) e') hr he
 |false=>exact ho av₀ A s' av1 hA (Y.k k) e hne hp (fun s'' σ' av' Z f e'=>hn s'' σ' av' Z (fr.tr f) e') hr he
theorem Kx{e:Expr}{pos:Pos}{xs:List Str}{q:R V}(hc:lD e=false)(h:aE prog w mg mb base n hd (env::l₀) sc (aA.clear σ xs) e q) :
  aQ prog w mg mb base n hd l₀ env sc s₀ σ (exec (.Expr e pos) env) fun kn _=>rb q fun _=>kn (aA.clear σ xs):=by
 intro av₀ A s av hA X kn kr fin Q E hf hne hp hn hr he;obtain⟨av1,Y,hsub⟩:=X.clear xs;have hsw:swapsWith e none pos.line env=pure false:=by
  unfold swapsWith;cases e<;>first | rfl | cases hc
 exact wpAny_Expr_any (h.st hA Y hf hne (fun v s' u k r e=>hn _ _ _ (Y.k k) ((Fr.sub hsub).tr (Y.frk k)) e) he) (by unfold interactive;rw[X.inv.kind];rfl) hsw
end
end Mine
namespace Mine
open PySem
section
variable {prog:Program} {w:World} {mg mb:Str→Option Value} {base:Heap} {n:Nat} {hd:Bool} {l₀:List Env} {env:Env} {sc:Scope} {av₀:Addr→Prop} {s₀:Shared} {σ:aA} {av:Addr→Prop} {s:Shared}
theorem qL{x:Str}{d:PyData}(h:gB σ x=.ok d):aA.get σ x=some (some (.own d)):=by
 unfold gB at h;refine ocs (aA.get σ x) (fun hg=>?_) fun o hg=>?_
 ·try rewrite[hg]
  rw[hg] at h;exact pno h
 ·try rewrite[hg]
  rw[hg] at h;cases o with
  |none=>exact pno h
  |some v =>
   cases v with
   |own d'=>obtain rfl:=pi h;rfl
   |_=>exact pno h
theorem Ky{y:Str}{v:Value}{r:List (Str×Value)}{k:Str}(hn:(((y,v)::r).map (·.1)).Nodup):without ((y,v)::r) k=if k=y then r else (y,v)::without r k:=by
 by_cases h:k=y
 ·subst h;rw[if_pos rfl];have hnot:k∉r.map (·.1):=(List.nodup_cons.mp (show(k::r.map (·.1)).Nodup from hn)).1;have:without ((k,v)::r) k=without r k:=by
   unfold without;simp
  rw[this,without_of_not_mem r k hnot]
 ·rw[if_neg h];unfold without;have:(decide ((y,v).1≠k))=true:=by simp;exact fun e=>h e.symm
  rw[List.filter_cons,if_pos this]
theorem KV.del{h:Heap}{av:Addr→Prop}{k:Str}:∀ {kvs:List (Str×Value)} {ds:List (PyData×PyData)},(kvs.map (·.1)).Nodup→KV prog w h av kvs ds→KV prog w h av (without kvs k) (dC ds k)
 | [],[],_,_=>trivial
 | (y,v0)::r,(dk,d0)::t,hn,x=>by
  obtain⟨x1,x2,x3⟩:=x;have x1:dk=.str y:=x1;subst x1;rw[Ky hn];show KV prog w h av _ (if k=y then t else (.str y,d0)::dC t k)
  split
  ·exact x3
  ·exact⟨rfl,x2,KV.del (List.nodup_cons.mp (show(y::r.map (·.1)).Nodup from hn)).2 x3⟩
 | [],_::_,_,x=>x.elim
 |_::_,[],_,x=>x.elim
theorem KV.ps{h:Heap}{av:Addr→Prop}:∀ {kvs:List (Str×Value)} {ds:List (PyData×PyData)} {ps:List (Str×PyData)},KV prog w h av kvs ds→(∀ kv∈kvs,kv.1.length≤sizeLine)→keys? ds=some ps→PS prog w h av kvs ps
 | [],[],_,_,_,e=>by obtain rfl:=si e;trivial
 | (y,v)::r,(dk,d)::t,ps,x,hz,e=>by
  obtain⟨x1,x2,x3⟩:=x;have x1:dk=.str y:=x1;subst x1;have e:(keys? t).map ((y,d)::·)=some ps:=e;obtain⟨ps',e1,rfl⟩:=Option.map_eq_some_iff.mp e;exact⟨rfl,hz _ List.mem_cons_self,x2,KV.ps x3 (fun kv h=>hz kv (List.mem_cons_of_mem _ h)) e1⟩
 | [],_::_,_,x,_,_=>x.elim
 |_::_,[],_,x,_,_=>x.elim
theorem qM{h:Heap}{a:Addr}{kvs:List (Str×Value)}(x:h.DictOf (strKind prog w) a kvs):(kvs.map (·.1)).Nodup:=by
 obtain⟨o,es,ep,_,_,_,_,_,hn⟩:=x;exact hn
theorem eW{h h':Heap}{a:Addr}(ha:av a)(hs:Heap.SameBut a h h')(b:Addr)(o:Obj)(hb:¬ av b)(e:h.get? b=some o):h'.get? b=some o:=by rw[hs.2 b (fun h=>hb (h▸ha))];exact e
theorem qN{h':Heap}{a:Addr}{kvs:List (Str×Value)}{ds:List (PyData×PyData)}(hd:h'.DictOf (strKind prog w) a kvs)(hz:kvs.length≤sizeLine∧∀ kv∈kvs,kv.1.length≤sizeLine)(hm:(a==sysModules)=false)(x:KV prog w h' av kvs ds):bI prog w h' av a (.dict ds) :=
 by obtain⟨g1,g2⟩:=x.out;exact⟨kvs,hd,hz,hm,g1,g2⟩
theorem yJ{A:Around}{a:Addr}{v:Value}{l:List (PyData×PyData)}{k:Str}{d:PyData}{Q:Value→Shared→Prop}{E:Value→Shared→Prop}(ha:av a)(hb:bI prog w s.heap av a (.dict l))(r:Rep prog w s.heap av v (.str k))(hg:bP l k=some d)
  (hq:∀ u h' tk,Heap.SameBut a s.heap h'→Rep prog w h' av u d→bI prog w h' av a (.dict (dC l k))→Q u { s with heap:=h',toks:=tk }):wpAny (model prog w) A (call (.builtin "dict.pop") [.ref a,v]) Q E s:=by
 obtain⟨kvs,h2,h3,h4,h5,h6⟩:=hb;obtain⟨t,rfl,hkl⟩:=r.str_inv;rcases mI k h5 with ⟨_,hno⟩ | ⟨i,u,d',hu,hd',e1,e2⟩
 ·rw[hno] at hg;exact ns hg
 ·rw[hd'] at hg;obtain rfl:=si hg;refine call_meetsIn F.slot_dict_pop h2.typeIs F.entry_dict_pop (F.args_dict_pop_2 _ _) (meets_dict_pop_there (strKind prog w) a (dZ k t) [] (.inl rfl) rfl) ⟨kvs,u,h2,h3.1,hu,fun h' hdo hs=>?_⟩;refine hq u h' _ hs ((h6 i _ _ e1 e2).mono (eW ha hs) fun _ _ _ x=>x) (qN hdo ⟨Nat.le_trans (List.length_filter_le _ _) h3.1,fun kv hkv=>h3.2 kv (List.mem_filter.mp hkv).1⟩ h4 ((KV.del (k:=k) (qM h2) (KV.of h5 h6)).mono (eW ha hs) fun _ _ _ x=>x))
theorem Kz{A:Around}{a:Addr}{v:Value}{l:List PyData}{d:PyData}{Q:Value→Shared→Prop}{E:Value→Shared→Prop}(ha:av a)(hb:bI prog w s.heap av a (.list l))(rv:Rep prog w s.heap av v d)(hl:l.length < aI)
  (hq:∀ h',Heap.SameBut a s.heap h'→bI prog w h' av a (.list (l++[d]))→Q .none { s with heap:=h' }):wpAny (model prog w) A (call (.builtin "list.append") [.ref a,v]) Q E s:=by
 obtain⟨xs,hp,hxl,hxz,hxr⟩:=hb;refine wpAny_list_append_plain hp (fun h' hp' hs=>hq h' hs ⟨xs++[v],by simpa using hp',by simp[hxl],?_,yA hxl (fun i u du e1 e2=>(hxr i u du e1 e2).mono (eW ha hs) fun _ _ _ x=>x) (rv.mono (eW ha hs) fun _ _ _ x=>x)⟩) (by simp;exact hxz);have:aI=sizeLine:=rfl;rw[List.length_append,hxl];exact this▸hl
theorem K0{A:Around}{a:Addr}{v:Value}{l m:List (PyData×PyData)}{ps:List (Str×PyData)}{Q:Value→Shared→Prop}{E:Value→Shared→Prop}(ha:av a)(hb:bI prog w s.heap av a (.dict l))(rv:Rep prog w s.heap av v (.dict m))(hk:keys? m=some ps)(hl:l.length+ps.length < 4096)
  (hq:∀ h',Heap.SameBut a s.heap h'→bI prog w h' av a (.dict (cK ps l))→Q .none { s with heap:=h' }):wpAny (model prog w) A (call (.builtin "dict.update") [.ref a,v]) Q E s:=by
 obtain⟨kvs,h2,h3,h4,h5,h6⟩:=hb;obtain⟨o,mvs,rfl,g1,g2,g3,g4,g5,g6⟩:=rv.dict_inv;have ps':=KV.ps (KV.of g5 g6) g3.2 hk;have e1:kvs.length=l.length:=by have:=congrArg List.length h5;simpa using this.symm
 have e2:mvs.length=ps.length:=ps'.length;have hsz:kvs.length+mvs.length≤sizeLine:=by
  have:sizeLine=16777216:=rfl;exact C5 hl e1 e2 this
 refine call_meetsIn F.slot_dict_update h2.typeIs F.entry_dict_update (F.args_dict_update_2 _ _) (meets_dict_update (strKind prog w) a o (fun e=>g1 (e▸ha)) g4) ⟨kvs,mvs,h2,g2,hsz,fun h' hdo _ hs=>hq h' hs ?_⟩;obtain⟨q1,q2⟩:=KV.sets ps' (qM h2) (KV.of h5 h6) h3.2;exact qN hdo ⟨Nat.le_trans (merged_length_le kvs mvs) hsz,q2⟩ h4 (q1.mono (eW ha hs) fun _ _ _ x=>x)
inductive MutThere(prog:Program)(w:World)(m:Str)(od:PyData):Prop where
 |mk (T id) (a:PlainAttrs T) (b:Slot T m id) (c:typeOf (.builtin id)=pure (.type "method_descriptor")) (d:∀ (s:Shared) (av:Addr→Prop) (a:Addr),bI prog w s.heap av a od→s.TypeIs (.ref a) T∧∃ ob,s.heap.get? a=some ob∧ob.dict=none)
  (e:∀ (A:Around) (s:Shared) (av:Addr→Prop) (a:Addr) (vs:List Value) (ds:List PyData) (od':PyData) (Q:Value→Shared→Prop) (E:Value→Shared→Prop),av a→bI prog w s.heap av a od→RL prog w s.heap av vs ds→lV m od ds=.ok od' →
   (∀ v h' tk,Heap.SameBut a s.heap h'→bI prog w h' av a od'→Q v { s with heap:=h',toks:=tk })→wpAny (model prog w) A (call (.builtin id) (.ref a::vs)) Q E s):MutThere prog w m od
theorem qO{l:List (PyData×PyData)}{s:Shared}{av:Addr→Prop}{a:Addr}(hb:bI prog w s.heap av a (.dict l)):s.TypeIs (.ref a) "dict" ∧ ∃ ob,s.heap.get? a=some ob∧ob.dict=none:=by
 obtain⟨kvs,h2,_⟩:=hb;refine⟨h2.typeIs,?_⟩;obtain⟨ob,es,ep,e,c,_⟩:=h2;exact⟨ob,e,c.2.1⟩
theorem qP{m:Str}{od:PyData}{ds:List PyData}{od':PyData}(h:lV m od ds=.ok od'):∃ d,ds=[d]:=by
 cases ds with
 |nil=>exact pno h
 |cons d r =>
  cases r with
  |nil=>exact⟨d,rfl⟩
  |cons=>exact pno h
theorem K1{m:Str}{od:PyData}(hm:hV m od=true):MutThere prog w m od:=by
 cases od with
 |list l =>
  obtain rfl:m = "append" := of_decide_eq_true hm;refine⟨"list", "list.append", F.plainAttrs_list,F.slot_list_append,by kernel_rfl,fun s av a hb=>?_,fun A s av a vs ds od' Q E ha hb r hmu hq=>?_⟩
  ·obtain⟨vs,⟨n,e⟩,_⟩:=hb;exact⟨⟨_,e,rfl⟩,_,e,rfl⟩
  ·obtain⟨d,rfl⟩:=qP hmu;obtain⟨v,vs,rfl,rv,r⟩:=r.cons;obtain rfl:=r.nil;replace hmu:(if l.length < aI then P.ok (.list (l++[d])) else .no)=.ok od':=hmu
   by_cases hc:l.length < aI
   ·rw[if_pos hc] at hmu;obtain rfl:=pi hmu;exact Kz ha hb rv hc fun h' hs hb'=>hq _ h' _ hs hb'
   ·rw[if_neg hc] at hmu;exact pno hmu
 |dict l =>
  rcases Bool.or_eq_true_iff.mp hm with hm | hm
  ·obtain rfl:m = "pop" := of_decide_eq_true hm;refine⟨"dict", "dict.pop", F.plainAttrs_dict,F.slot_dict_pop,by kernel_rfl,fun s av a hb=>qO hb,fun A s av a vs ds od' Q E ha hb r hmu hq=>?_⟩;obtain⟨d,rfl⟩:=qP hmu;obtain⟨v,vs,rfl,rv,r⟩:=r.cons;obtain rfl:=r.nil;replace hmu:vO l d=.ok od':=hmu;cases d with
   |str k =>
    replace hmu:(if (bP l k).isSome then P.ok (.dict (dC l k)) else .no)=.ok od':=hmu;refine ocs (bP l k) (fun hg=>?_) fun d hg=>?_
    ·try rewrite[hg]
     rw[hg] at hmu;exact pno hmu
    ·try rewrite[hg]
     rw[hg] at hmu;obtain rfl:=pi hmu;exact yJ ha hb rv hg fun u h' tk hs _ hb'=>hq u h' tk hs hb'
   |_=>exact pno hmu
  ·obtain rfl:m = "update" := of_decide_eq_true hm;refine⟨"dict", "dict.update", F.plainAttrs_dict,F.slot_dict_update,by kernel_rfl,fun s av a hb=>qO hb,fun A s av a vs ds od' Q E ha hb r hmu hq=>?_⟩;obtain⟨d,rfl⟩:=qP hmu;obtain⟨v,vs,rfl,rv,r⟩:=r.cons;obtain rfl:=r.nil;replace hmu:vP l d=.ok od':=hmu;cases d with
   |dict m =>
    replace hmu:((ofO (keys? m)).bind fun m=>if l.length+m.length < 4096 then P.ok (.dict (cK m l)) else .no)=.ok od':=hmu;refine ocs (keys? m) (fun hk=>?_) fun ps hk=>?_
    ·try rewrite[hk]
     rw[hk] at hmu;exact pno hmu
    ·try rewrite[hk]
     rw[hk] at hmu;replace hmu:(if l.length+ps.length < 4096 then P.ok (.dict (cK ps l)) else .no)=.ok od':=hmu
     by_cases hc:l.length+ps.length < 4096
     ·rw[if_pos hc] at hmu;obtain rfl:=pi hmu;exact K0 ha hb rv hk hc fun h' hs hb'=>hq _ h' _ hs hb'
     ·rw[if_neg hc] at hmu;exact pno hmu
   |_=>exact pno hmu
 |_=>exact bft hm
theorem P.bind_ok{α β:Type}{p:P α}{f:α→P β}{b:β}(h:p.bind f=.ok b):∃ a,p=.ok a∧f a=.ok b:=by
 cases p with
 |no=>exact pno h
 |ok a=>exact⟨a,rfl,h⟩
theorem K2{ev:EV}(hbad:∀ σ e,bad e=true→ev σ e=.no){x m:Str}{as:List Expr}{xp ap cp pos:Pos}{xs:List Str}(h:∀ e∈as,aE prog w mg mb base n hd (env::l₀) sc (aA.clear σ xs) e (ev (aA.clear σ xs) e)) :
  aQ prog w mg mb base n hd l₀ env sc s₀ σ (exec (.Expr (.Call (.Attribute (.Name x xp) m ap) as [] cp) pos) env) fun kn _=>lY ev (aA.clear σ xs) x m ap as cp kn:=by
 intro av₀ A s av hA X kn kr fin Q E hf hne hp hn hr he;obtain⟨av1,Y,hsub⟩:=X.clear xs;replace hf:lY ev (aA.clear σ xs) x m ap as cp kn=fin:=hf;unfold lY at hf
 by_cases hc:(ap.endLine==cp.line)=false∨as.any bad=true∨3 < as.length
 ·rw[if_pos hc] at hf;exact absurd hf.symm hne
 rw[if_neg hc] at hf;simp only[not_or,Bool.not_eq_true,Bool.not_eq_false,Nat.not_lt] at hc;obtain⟨c3,c4,c5⟩:=hc;obtain⟨od,hod,hf⟩:=cX hf hne;have hg:=qL hod;obtain⟨hlx,_⟩:=Y.names x _ hg;obtain⟨u,hv,a,rfl,hfr,hb⟩:=Y.inv.get x _ hlx hg;have ha:=(Y.ownA x a ⟨⟨od,hg⟩,hv⟩).1;refine bcs (hV m od) (fun hm=>?_) fun hm=>?_
 ·try rewrite[hm]
  rw[hm] at hf;exact absurd hf.symm hne
 ·try rewrite[hm]
  rw[hm] at hf;replace hf:rb (evs (ev (aA.clear σ xs)) as) _=fin:=hf;obtain⟨T,id,t1,t2,t3,t4,t5⟩:=K1 (prog:=prog) (w:=w) hm;obtain⟨q1,q2⟩:=t4 s av1 a hb;refine wpAny_Expr_any ?_ (by unfold interactive;rw[X.inv.kind];rfl) rfl;refine wpAny_Call_method_lateS rfl (mU c4 c5 cp env) c3 (fP Y.inv hlx hv ⟨T,id,t1,t2,t3,q1,fun a' e=>by cases e;exact q2,iB c4 (gC (hbad _) hA h Y.inv ⟨hf,hne⟩ (fun vs s₂ us k2 r1 r2 e2=>?_) fun x v s' e f=>he x v s' e (Y.up f))⟩);obtain⟨od',hmu,e2⟩:=cX e2 hne;obtain⟨σ',hσ,e3⟩:=cX e2 hne;obtain⟨v0,_,rfl⟩:=fR hσ;have Y2:=Y.k k2;refine t5 A s₂ av1 a vs _ od' _ E ha (hb.k Y.inv.gnd.fav k2 hfr) ⟨r1,r2⟩ hmu fun v h' tk hs hb'=>?_;exact hn _ _ _ (Y2.mut (tk:=tk) hg (hv.k k2) hs hb') ((Fr.sub hsub).tr ((Y.frk k2).tr (Y2.frMut (s':={ s₂ with heap:=h',toks:=tk }) hg (hv.k k2) hs))) e3
end
end Mine
namespace Mine
open PySem
section
variable {prog:Program} {w:World} {mg mb:Str→Option Value} {base:Heap} {n:Nat} {hd:Bool} {l₀:List Env} {env:Env} {sc:Scope} {av₀:Addr→Prop} {s₀:Shared} {σ:aA} {av:Addr→Prop} {s:Shared}
theorem K3(f:Array Value→Array Value)(its:Array Value)(n:Nat):∃ n',Obj.mapSeq f { cls:=.type "list", data:=.seq its n }={ cls:=.type "list", data:=.seq (f its) n' }:=⟨_,rfl⟩
theorem K4{A:Around}{E:Value→Shared→Prop}{s:Shared}{l:Addr}{items:Array Value}{k:Int}{t:Tok}{v:Value}{Q:Unit→Shared→Prop}(hp:s.heap.PlainList l items)
  (h0:0≤k) (hfit:k < 2 ^ 63) (hn:k < items.size)
  (hQ:∀ h',h'.PlainList l (items.setIfInBounds k.toNat v)→Heap.SameBut l s.heap h'→Q () { s with heap:=h' }) :
  wpAny (model prog w) A (PySem.setItem (.ref l) (.int k t) v) Q E s:=by
 have hl:=hp.isList;obtain⟨ne,ho⟩:=hp;unfold PySem.setItem
 try with_reducible refine wpAny_holding ?_
 first | refine wpAny_bind (wpAny_pure ?_) | skip
 refine wpAny_bind (wpAny_sequenceKey hl.typeIs (by decide) ?_);refine wpAny_bind (wpAny_callSpecial?_slot (name:=Str.ofString "__setitem__") hl.typeIs slot_list_setitem
  (wpAny_call_entry slot_list_setitem hl.typeIs entry_list_setitem ?_ (args_list_setitem _ _ _)))
 show wpAny _ _ (Builtin.List.listSubscript? (.int k t) >>= _) _ _ s;refine wpAny_bind (wpAny_listSubscript_int (fitsIndex_of h0 hfit) ?_);clear hfit;obtain⟨j,rfl⟩:=Int.eq_ofNat_of_zero_le h0;have hj:j < items.size:=by exact C6 hn
 have hx':items[j]?=some items[j]:=Array.getElem?_eq_getElem hj;show wpAny _ _ ((seqItemAt l j >>= fun r=>pure (r.map (j,·))) >>= _) _ _ s;refine wpAny_bind (wpAny_bind (wpAny_seqItemAt ho rfl (wpAny_pure ?_)));rw[hx'];show wpAny _ _ (setSeqItemAt l j v >>= _) _ _ s;obtain⟨n',hm⟩:=K3 (·.setIfInBounds j v) items ne;have hfin:(s.heap.update l (Obj.mapSeq (·.setIfInBounds j v))).PlainList l (items.setIfInBounds j v) :=
  ⟨n',by rw[Heap.get?_update_self _ ho (by rw[hm];rfl),hm]⟩
 refine wpAny_bind (wpAny_setSeqItemAt ho rfl ?_)
 first
  |exact wpAny_bind (wpAny_pure (wpAny_pure ⟨.none,rfl,wpAny_pure (hQ _ hfin (Heap.SameBut.update ..))⟩))
  |exact wpAny_pure ⟨.none,rfl,wpAny_pure (hQ _ hfin (Heap.SameBut.update ..))⟩
theorem K5(kvs:List (Str×Value))(k:Str)(v:Value):(stored kvs k v).length≤kvs.length+1:=by
 unfold stored
 split
 ·simp
 ·simp
theorem K6{A:Around}{a:Addr}{vi vd:Value}{o i d o':PyData}{Q:Unit→Shared→Prop}{E:Value→Shared→Prop}(ha:av a)(hb:bI prog w s.heap av a o)(ri:Rep prog w s.heap av vi i)(rd:Rep prog w s.heap av vd d)
  (hs:setItem o i d=.ok o') (hq:∀ h' tk,Heap.SameBut a s.heap h'→bI prog w h' av a o'→Q () { s with heap:=h',toks:=tk }):wpAny (model prog w) A (PySem.setItem (.ref a) vi vd) Q E s:=by
 cases o with
 |dict l =>
  replace hs:vM l d i=.ok o':=hs;cases i with
  |str k =>
   replace hs:(if l.length < aI then P.ok (.dict (dJ l k d)) else .no)=.ok o':=hs
   by_cases hc:l.length < aI
   ·rw[if_pos hc] at hs;obtain rfl:=pi hs;obtain⟨kvs,h2,h3,h4,h5,h6⟩:=hb;obtain⟨t,rfl,hkl⟩:=ri.str_inv;have hlen:kvs.length=l.length:=by
     have:=congrArg List.length h5;simpa using this.symm
    refine wpAny_setItem_pairs (dZ k t) h2 (fun h' hd' hsb=>hq h' _ hsb (qN hd' ⟨?_,xI h3.2 hkl⟩ h4 (KV.set (k:=k) (rd.mono (eW ha hsb) fun _ _ _ x=>x) (qM h2) ((KV.of h5 h6).mono (eW ha hsb) fun _ _ _ x=>x)))) h3.1;have h1:=K5 kvs k vd;have h2:aI=sizeLine:=rfl;exact C7 hc hlen h1 h2
   ·rw[if_neg hc] at hs;exact pno hs
  |_=>exact pno hs
 |list l =>
  replace hs:vN l d i=.ok o':=hs;cases i with
  |int k =>
   replace hs:(if 0≤k∧k < l.length then P.ok (.list (l.set k.toNat d)) else .no)=.ok o':=hs
   by_cases hc:0≤k∧k < l.length
   ·rw[if_pos hc] at hs;obtain rfl:=pi hs;obtain⟨xs,hp,hxl,hxz,hxr⟩:=hb;obtain⟨t,rfl⟩:=ri.int_inv;have hN:sizeLine=16777216:=rfl;refine K4 hp hc.1 (by lia) (by simp;exact C8 hc hxl) fun h' hp' hsb=>hq h' _ hsb ⟨xs.set k.toNat vd,?_,by simp[hxl],by simpa using hxz,fun i u du e1 e2=>?_⟩
    ·have:(xs.set k.toNat vd).toArray=xs.toArray.setIfInBounds k.toNat vd:=by simp
     rw[this];exact hp'
    ·rw[List.getElem?_set] at e1 e2
     by_cases hj:k.toNat=i
     ·rw[if_pos hj] at e1 e2
      split at e1
      ·split at e2
       ·obtain rfl:=si e1;obtain rfl:=si e2;exact rd.mono (eW ha hsb) fun _ _ _ x=>x
       ·exact ns e2
      ·exact ns e1
     ·rw[if_neg hj] at e1 e2;exact(hxr i u du e1 e2).mono (eW ha hsb) fun _ _ _ x=>x
   ·rw[if_neg hc] at hs;exact pno hs
  |_=>exact pno hs
 |_=>exact pno hs
theorem yK{A:Around}{x:Str}{i:Expr}{xp:Pos}{vd:Value}{d:PyData}{ri:R V}(hi:aE prog w mg mb base n hd (env::l₀) sc σ i ri)(hA:Room n hd (env::l₀) A)(X:Act prog w mg mb base l₀ env sc av₀ s₀ σ av s)(rd:Rep prog w s.heap av vd d)
  {kn:KN} {fin:R V} {Q:Flow→Shared→Prop} {E:Value→Shared→Prop} (hf:rb (ofP (gB σ x)) (fun o=>rb ri fun iv=>rb (ofP (setItem o (dOf iv) d)) fun o=>rb (ofP (cQ x (.own o) σ)) kn)=fin) (hne:fin≠.no)
  (hn:∀ s' σ' av',Act prog w mg mb base l₀ env sc av₀ s₀ σ' av' s'→Fr (env::l₀) av₀ s av s' av'→kn σ'=fin→Q .next s') (he:∀ x v s',fin=.exc x→Upx prog w mg base l₀ env s₀ av₀ x v s'→E v s') :
  wpAny (model prog w) A (eval (.Name x xp) env) (fun ov s₂=>wpAny (model prog w) A (eval i env) (fun iv s₃=>wpAny (model prog w) A (PySem.setItem ov iv vd) (fun _=>Q Flow.next) E s₃) E s₂) E s:=by
 obtain⟨od,hod,hf⟩:=cX hf hne;have hg:=qL hod;obtain⟨hlx,_⟩:=X.names x _ hg;obtain⟨u',hv,a,rfl,hfr,hb⟩:=X.inv.get x _ hlx hg;have ha:=(X.ownA x a ⟨⟨od,hg⟩,hv⟩).1;refine fP X.inv hlx hv (hi.st hA X hf hne (fun iv s₂ ui k2 r2 e2=>?_) he);obtain⟨od',hso,e2⟩:=cX e2 hne;obtain⟨σ',hσ,e3⟩:=cX e2 hne;obtain⟨v0,_,rfl⟩:=fR hσ;have X2:=X.k k2;refine K6 ha (hb.k X.inv.gnd.fav k2 hfr) (r2.rep X.inv.gnd.avlt) (rd.k X.inv.gnd.fav k2) hso fun h' tk hs hb'=>?_;exact hn _ _ _ (X2.mut (tk:=tk) hg (hv.k k2) hs hb') ((X.frk k2).tr (X2.frMut (s':={ s₂ with heap:=h',toks:=tk }) hg (hv.k k2) hs)) e3
theorem yL{α:Type}{c:Prop}[Decidable c]{r fin:R α}(h:(if c then .no else r)=fin)(hne:fin≠.no):¬ c∧r=fin:=by
 by_cases hc:c
 ·rw[if_pos hc] at h;exact absurd h.symm hne
 ·rw[if_neg hc] at h;exact⟨hc,h⟩
theorem yM(e o i:Expr)(p:Pos)(line:Nat):swapsWith e (some (.Subscript o i p)) line env=pure false:=by
 unfold swapsWith;cases e<;>rfl
theorem yN{ev:EV}{x:Str}{i e:Expr}{xp p pos:Pos}{xs:List Str}(h:∀ σ e,aE prog w mg mb base n hd (env::l₀) sc σ e (ev σ e)) :
  aQ prog w mg mb base n hd l₀ env sc s₀ σ (exec (.Assign [.Subscript (.Name x xp) i p] e pos) env) fun kn _=>lW ev (aA.clear σ xs) x i e kn:=by
 intro av₀ A s av hA X kn kr fin Q E hf hne hp hn hr he;obtain⟨av1,Y,hsub⟩:=X.clear xs;obtain⟨_,hf⟩:=yL hf hne;refine wpAny_Assign_Subscript ((h _ e).st hA Y hf hne (fun v s₁ u k1 r e1=>?_) he) (yM ..);exact yK (h _ i) hA (Y.k k1) ((r.rep Y.inv.gnd.avlt)) e1 hne (fun s' σ' av' Z f e=>hn s' σ' av' Z ((Fr.sub hsub).tr ((Y.frk k1).tr f)) e) he
theorem K7{l:List (PyData×PyData)}{k:PyData}{q:PyData×PyData}(h:vR l k=.ok q):∃ x,k=.str x∧bP l x=some q.1∧q.2=.dict (dC l x):=by
 cases k with
 |str x =>
  replace h:((ofO (bP l x)).bind fun d=>P.ok (d,.dict (dC l x)))=.ok q:=h;refine ocs (bP l x) (fun hg=>?_) fun d hg=>?_
  ·try rewrite[hg]
   rw[hg] at h;exact pno h
  ·try rewrite[hg]
   rw[hg] at h;obtain rfl:=pi h;exact⟨x,rfl,hg,rfl⟩
 |_=>exact pno h
theorem K8{d:PyData}{l:List (PyData×PyData)}(h:vT d=.ok l):d=.dict l:=by
 cases d with
 |dict l'=>obtain rfl:=pi h;rfl
 |_=>exact pno h
theorem K9{ev:EV}{x y:Str}{i:Expr}{as:List Expr}{xp yp ap cp p pos:Pos}{xs:List Str}(h:∀ σ e,aE prog w mg mb base n hd (env::l₀) sc σ e (ev σ e)) :
  aQ prog w mg mb base n hd l₀ env sc s₀ σ (exec (.Assign [.Subscript (.Name x xp) i p] (.Call (.Attribute (.Name y yp) "pop" ap) as [] cp) pos) env) fun kn _=>pK ev (aA.clear σ xs) x i y ap as cp kn:=by
 intro av₀ A s av hA X kn kr fin Q E hf hne hp hn hr he;obtain⟨av1,Y,hsub⟩:=X.clear xs;obtain⟨hc,hf⟩:=yL hf hne;simp only[not_or,Bool.not_eq_true,Bool.not_eq_false] at hc;obtain⟨c3,c4,_⟩:=hc;cases as with
 |nil=>exact absurd hf.symm hne
 |cons k r =>
  cases r with
  |cons=>exact absurd hf.symm hne
  |nil =>
   obtain⟨l,hl,hf⟩:=cX hf hne;obtain⟨od,hod,hl⟩:=P.bind_ok hl;cases K8 hl;have hg:=qL hod;obtain⟨hly,_⟩:=Y.names y _ hg;obtain⟨u,hv,a,rfl,hfr,hb⟩:=Y.inv.get y _ hly hg;have ha:=(Y.ownA y a ⟨⟨_,hg⟩,hv⟩).1;obtain⟨q1,q2⟩:=qO hb;refine wpAny_Assign_Subscript (wpAny_Call_method_lateS rfl (mU c4 (Nat.le_of_ble_eq_true rfl) cp env) c3 (fP Y.inv hly hv ⟨"dict", "dict.pop", F.plainAttrs_dict,F.slot_dict_pop,by kernel_rfl,q1,fun a' e=>by cases e;exact q2,iB c4 (wpAny_items_cons ((h _ k).st hA Y hf hne (fun kv s₁ ku k1 r1 e1=>wpAny_items_nil ?_) he) (eK (Bool.or_eq_false_iff.mp c4).1))⟩)) (yM ..);obtain⟨q',hp,e1⟩:=cX e1 hne;obtain⟨σ',hσ,e2⟩:=cX e1 hne;obtain⟨v0,_,rfl⟩:=fR hσ;obtain⟨z,hz,g1,g2⟩:=K7 hp;have Y1:=Y.k k1;refine yJ ha (hb.k Y.inv.gnd.fav k1 hfr) (hz▸r1.rep Y.inv.gnd.avlt) g1 fun u h' tk hs ru hb'=>?_;have Y2:=Y1.mut (tk:=tk) hg (hv.k k1) hs (g2.symm▸hb');exact yK (h _ i) hA Y2 ru e2 hne (fun s' σ' av' Z f e=>hn s' σ' av' Z ((Fr.sub hsub).tr ((Y.frk k1).tr ((Y1.frMut (s':={ s₁ with heap:=h',toks:=tk }) hg (hv.k k1) hs).tr f))) e) he
end
end Mine
namespace Mine
open PySem
section
variable {prog:Program} {w:World} {mg mb:Str→Option Value} {base:Heap} {n:Nat} {hd:Bool} {l₀:List Env} {env:Env} {sc:Scope} {av₀:Addr→Prop} {s₀:Shared} {σ:aA} {av:Addr→Prop} {s:Shared}
theorem La(e:Expr)(x:Str)(p:Pos)(line:Nat):∃ b:Bool,swapsWith e (some (.Name x p)) line env=pure b:=by
 unfold swapsWith;cases e<;>exact⟨_,rfl⟩
theorem Lb{e:Expr}{x:Str}{p:Pos}{line:Nat}(h:swapsWith e (some (.Name x p)) line env=pure true):lD e=true:=by
 have hne:(pure false:Sem Bool)≠pure true:=fun h=>by cases h
 cases e<;>first
  |rfl
  |exact absurd h hne
theorem Lc{elt:Expr}{g:Comprehension}{sc':Scope}{cpos:Pos}{x:Str}{p pos:Pos}{xs:List Str}{rec:Scope→aA→Expr→R V}
  (hs:swapsWith (.ListComp elt [g] sc' cpos) (some (.Name x p)) pos.line env=pure true) (hbad:∀ e,bad e=true→rec sc (aA.clear σ xs) e=.no)
  (hit:aE prog w mg mb base n hd (env::l₀) sc (aA.clear σ xs) g.iter (rec sc (aA.clear σ xs) g.iter)) (hsub:∀ f as kws q,g.iter=.Call f as kws q→∀ a∈as,aE prog w mg mb base n hd (env::l₀) sc (aA.clear σ xs) a (rec sc (aA.clear σ xs) a))
  (hT:∀ c∈g.ifs,∀ σ',bO prog w mg mb base n hd (env::l₀) sc' σ' c (rec sc' σ' c)) (hE:∀ σ',aE prog w mg mb base n hd (env::l₀) sc' σ' elt (rec sc' σ' elt)) :
  aQ prog w mg mb base n hd l₀ env sc s₀ σ (exec (.Assign [.Name x p] (.ListComp elt [g] sc' cpos) pos) env) fun kn _=>rb (hO rec hd sc (aA.clear σ xs) elt g sc') fun v=>rb (ofP (cQ x v (aA.clear σ xs))) kn:=by
 intro av₀ A s av hA X kn kr fin Q E hf hne hp hn hr he;obtain⟨av1,Y,hsb⟩:=X.clear xs;rw[exec_Assign_Name_used _ _ _ _ hs];refine wpAny_bind (wpAny_standAt (wpAny_bind ?_));rw[arm_evalThenUse_ListComp];refine wpAny_bind (wpAny_mono (yD (Q:=fun _ s'=>Q .next s') hbad hit hsub hT hE hA Y.inv ⟨hf,hne⟩ (fun x v s' e f=>he x v s' e (Y.up f)) fun s₁ wr D C zs st' k0 hD hC hDC hz F e=>?_) (fun _ s' hq=>wpAny_pure (wpAny_pure hq)) fun _ _ e=>e);obtain⟨σ',hσ,e⟩:=cX e hne;obtain⟨v0,hg,rfl⟩:=fR hσ;obtain⟨kk,⟨mC,hnsC⟩,ys,hpl,hyl,hys⟩:=F;have k:=k0.tr kk;have sD:=k0.non hD;have sC:=k0.non hC;obtain⟨d1,d2,d3,d4,d5⟩:=Y.newNot sD;obtain⟨c1,c2,c3,c4,c5⟩:=Y.newNot sC;have Z:=Y.growS (S:=fun b=>b=D∨b=C) k (fun a ha=>ha.elim (fun h=>h▸sD) fun h=>h▸sC) (fun a ha=>ha.elim (fun h=>by obtain⟨n,e⟩:=hpl;exact⟨_,h▸e⟩) fun h=>by obtain⟨o,es,ep,e,_⟩:=hnsC;exact⟨o,h▸e⟩);have notO:∀ b,¬ av1 b→∀ y,¬ bW env (aA.clear σ xs) st'.heap y b:=fun b hb y h=>hb (Y.ownA y b (Y.ownBack (fun u h=>h.k k) h)).1;have g:Fr (env::l₀) av₀ s av1 st' (fun b=>av1 b∨b=D∨b=C):=⟨(Y.frk k).keep,fun b o e h=>h.elim id (fun h=>by
  rcases h with h | h
  ·rw[h,sD] at e;exact ns e
  ·rw[h,sC] at e;exact ns e),(Y.frk k).pins⟩
 refine wpAny_assign_Name (Z.put hg (v:=.own (.list zs)) ⟨D,rfl,d5,ys,hpl,hyl,by rw[hyl];exact hz,fun j v d e1 e2=>?_⟩ (fun d a e1 e2=>?_) fun s' Z' f hvx hvy=>?_)
 ·exact(hys j v d e1 e2).mono (fun _ _ _ e=>e) fun b o _ hb=>hb.imp id .inr
 ·cases e2;exact⟨.inr (.inl rfl),d4,d3,d1,fun y _=>notO D d2 y⟩
 ·have hown:∀ y a,bW env (aA.set (aA.clear σ xs) x (.own (.list zs))) s'.heap y a→¬ a=C:=fun y a ⟨⟨d',hgy⟩,hv⟩ ha=>by
   subst ha
   by_cases hyx:y=x
   ·subst hyx;cases aW.uniq hvx hv;exact hDC rfl
   ·have hgy:=iF hyx hgy;exact notO a c2 y ⟨⟨d',hgy⟩,Z.varBack hgy (fun u=>hvy y u hyx) hv⟩
  refine⟨mC,hnsC.at' fun o e=>f C o c1 e,fun h' hs'=>?_⟩;have hkeep:∀ b o,¬ b=C→s'.heap.get? b=some o→h'.get? b=some o:=fun b o hb e=>by rw[hs'.2 b hb];exact e
  have W:=Z'.wildS (S:=fun b=>b=C) (av':=fun b=>(av1 b∨b=D∨b=C)∧b≠C) (h':=h') (tk:=s'.toks) (fun b hb=>.inr (.inr hb)) (fun b hb=>hb▸c4) (fun b m h=>c1 (h▸m)) hown hkeep
   (fun b hb=>hb.1) (fun b hb hb'=>⟨hb,hb'⟩) (fun b hb hb'=>absurd hb' hb.2) (fun b hb=>⟨.inl (Y.bas b hb),fun h=>c3 (h▸hb)⟩)
  have fr:Fr (env::l₀) av₀ s' (fun b=>av1 b∨b=D∨b=C) { s' with heap:=h' } (fun b=>(av1 b∨b=D∨b=C)∧b≠C):=⟨fun b o e hb=>hkeep b o (fun h=>hb (.inr (.inr h))) e,fun _ _ _ h=>h.1,fun b o hb _ e=>hkeep b o (fun h=>c3 (h▸hb)) e⟩
  exact hn _ _ _ W ((Fr.sub hsb).tr (g.tr ((Z.frPut f).tr fr))) e
theorem Ld:∀ {es:List Expr} {xs:List Str},cM es=some xs→(assignEach es env).length=xs.length∧(assignEach es env).findIdx? (·.1)=none:=by
 intro v0
 induction v0 with
 |nil =>
  intro xs h;obtain rfl:=si h;exact⟨rfl,rfl⟩
 |cons e es ih =>
  intro xs h;replace h:((bB e).bind fun x=>(cM es).map (x::·))=some xs:=h;refine ocs (bB e) (fun hx=>?_) fun x hx=>?_
  ·try rewrite[hx]
   rw[hx] at h;exact ns h
  ·try rewrite[hx]
   rw[hx] at h;obtain⟨p,rfl⟩:=cW hx;have h:(cM es).map (x::·)=some xs:=h;obtain⟨ys,h1,rfl⟩:=Option.map_eq_some_iff.mp h;obtain⟨g1,g2⟩:=ih h1;have e0:assignEach (.Name x p::es) env=(false,assign (.Name x p) env)::assignEach es env:=rfl;rw[e0];refine⟨by simp[g1],?_⟩;rw[List.findIdx?_cons];simp[g2]
theorem Act.putF{A:Around}{E:Value→Shared→Prop}{x:Str}{v0:Option V}{u:Value}{d:PyData}{Q:Unit→Shared→Prop}(X:Act prog w mg mb base l₀ env sc av₀ s₀ σ av s)(hx:aA.get σ x=some v0)(hv:Rep prog w s.heap av u d)
  (hq:∀ s',Act prog w mg mb base l₀ env sc av₀ s₀ (aA.set σ x (.fz d)) av s'→Fr (env::l₀) av₀ s av s' av→Q () s'):wpAny (model prog w) A (storeName env x u) Q E s :=
 X.put hx (show bV prog w mg (env::l₀) s.heap av u (.fz d) from hv) (fun _ _ e=>by cases e) fun s' Y f _ _=>hq s' Y (X.frPut f)
theorem Le{A:Around}{E:Value→Shared→Prop}{Q:Unit→Shared→Prop}:∀ {es:List Expr} {xs:List Str} {ds:List PyData} {vs:List Value} {σ σ':aA} {s:Shared},cM es=some xs→lU xs ds σ=.ok σ'→RL prog w s.heap av vs ds →
  Act prog w mg mb base l₀ env sc av₀ s₀ σ av s→(∀ s',Act prog w mg mb base l₀ env sc av₀ s₀ σ' av s'→Fr (env::l₀) av₀ s av s' av→Q () s')→wpAny (model prog w) A (assignInOrder ((assignEach es env).map (·.2)) vs) Q E s:=by
 intro v0
 induction v0 with
 |nil =>
  intro xs ds vs σ σ' s hn hs r X hq;obtain rfl:=si hn;cases ds with
  |cons=>exact pno hs
  |nil =>
   obtain rfl:=pi hs;obtain rfl:=r.nil;exact wpAny_assignInOrder_none (hq s X (Fr.rf _ s av))
 |cons e es ih =>
  intro xs ds vs σ σ' s hn hs r X hq;replace hn:((bB e).bind fun x=>(cM es).map (x::·))=some xs:=hn;refine ocs (bB e) (fun hx=>?_) fun x hx=>?_
  ·try rewrite[hx]
   rw[hx] at hn;exact ns hn
  ·try rewrite[hx]
   rw[hx] at hn;obtain⟨p,rfl⟩:=cW hx;have hn:(cM es).map (x::·)=some xs:=hn;obtain⟨ys,h1,rfl⟩:=Option.map_eq_some_iff.mp hn;cases ds with
   |nil=>exact pno hs
   |cons d ds =>
    obtain⟨v,vs,rfl,rv,r⟩:=r.cons;obtain⟨σ1,h2,h3⟩:=P.bind_ok hs;obtain⟨v0,hg,rfl⟩:=fR h2;show wpAny _ A (assignInOrder (assign (.Name x p) env::(assignEach es env).map (·.2)) (v::vs)) Q E s;refine wpAny_assignInOrder_more (wpAny_assign_Name (X.putF hg rv fun s1 Y1 f1=>?_));exact ih h1 h3 ⟨r.1,fun i v' d' e1 e2=>(r.2 i v' d' e1 e2).mono (fun b o hb e=>f1.keep b o e hb) fun _ _ _ h=>h⟩ Y1 fun s' Z fr=>hq s' Z (f1.tr fr)
theorem yO:∀ {xs:List Str} {ds:List PyData} {σ σ':aA},lU xs ds σ=.ok σ'→xs.length=ds.length
 | [],[],_,_,_=>rfl
 | [],_::_,_,_,h=>by exact pno h
 |_::_,[],_,_,h=>by exact pno h
 |x::xs,d::ds,σ,σ',h=>by
  obtain⟨σ1,_,h2⟩:=P.bind_ok h;have:=yO h2;simp[this]
theorem Lf{d:PyData}{l:List PyData}(h:lK d=.ok l):d=.tuple l:=by
 cases d with
 |tuple l'=>obtain rfl:=pi h;rfl
 |_=>exact pno h
theorem yP{A:Around}{E:Value→Shared→Prop}{σ':aA}{target:Expr}{v:Value}{d:PyData}{Q:Unit→Shared→Prop}(hh:A.handled=none)(X:Act prog w mg mb base l₀ env sc av₀ s₀ σ av s)(r:Rep prog w s.heap av v d)(ha:aS target d σ=.ok σ')
  (hq:∀ s',Act prog w mg mb base l₀ env sc av₀ s₀ σ' av s'→Fr (env::l₀) av₀ s av s' av→Q () s'):wpAny (model prog w) A (assign target env v) Q E s:=by
 unfold aS at ha;cases hv:vw target with
 |name x =>
  rw[hv] at ha;obtain⟨p,rfl⟩:=cE hv;obtain⟨v0,hg,rfl⟩:=fR ha;exact wpAny_assign_Name (X.putF hg r hq)
 |tup es =>
  rw[hv] at ha;obtain⟨k,p,rfl⟩:=cE hv;obtain⟨ds,h1,ha1⟩:=P.bind_ok ha;clear ha;cases Lf h1;obtain⟨xs,h2,ha⟩:=P.bind_ok ha1;clear ha1;refine ocs (cM es) (fun hn=>?_) fun ys hn=>?_
  ·try rewrite[hn]
   rw[hn] at h2;exact pno h2
  ·try rewrite[hn]
   rw[hn] at h2;obtain rfl:=pi h2;obtain⟨ad,vs,rfl,g1,g2,g3,g4,g5⟩:=r.tuple_inv;obtain⟨e1,e2⟩:=Ld (env:=env) hn;refine wpAny_assign_Tuple hh g2.isTuple (by rw[e1,yO ha,← g3];simp) e2 fun h1 he=>?_;have k1:∀ b o,s.heap.get? b=some o→h1.get? b=some o:=fun b o e=>he b o (jV e) e;have kk:K (env::l₀) s { s with heap:=h1 }:=K.of ⟨h1,s.toks,rfl,k1⟩;exact Le hn ha ⟨g3,fun i v d q1 q2=>(g5 i v d q1 q2).keeps k1⟩ (X.k kk) fun s' Z fr=>hq s' Z ((X.frk kk).tr fr)
 |_=>rw[hv] at ha;exact pno ha
theorem Lg{e:Expr}(h:oY e=true):∃ f as kws q,e=.Call f as kws q:=by
 unfold oY at h;cases hv:vw e with
 |call f as kws q=>exact⟨f,as,kws,q,cE hv⟩
 |_=>rw[hv] at h;exact bft h
theorem iH{α:Type}{c:Prop}[Decidable c]{r fin:R α}(h:(if c then r else .no)=fin)(hne:fin≠.no):c∧r=fin:=by
 by_cases hc:c
 ·rw[if_pos hc] at h;exact⟨hc,h⟩
 ·rw[if_neg hc] at h;exact absurd h.symm hne
theorem Lh{ev:EV}{es:List Expr}{k:Nat}{p:Pos}{e:Expr}{pos:Pos}{xs:List Str}(h:aE prog w mg mb base n hd (env::l₀) sc (aA.clear σ xs) e (ev (aA.clear σ xs) e)) :
  aQ prog w mg mb base n hd l₀ env sc s₀ σ (exec (.Assign [.Tuple es k p] e pos) env) fun kn _=>vQ ev hd (aA.clear σ xs) (.Tuple es k p) e kn:=by
 intro av₀ A s av hA X kn kr fin Q E hf hne hp hn hr he;obtain⟨av1,Y,hsub⟩:=X.clear xs;obtain⟨hc,hf⟩:=iH hf hne;obtain⟨f,as,kws,q,rfl⟩:=Lg hc.1;refine wpAny_Assign_stores (h.st hA Y hf hne (fun v s₁ u k1 r e1=>?_) he) rfl rfl;obtain⟨σ',hσ,e2⟩:=cX e1 hne;exact yP (hA.handled hc.2) (Y.k k1) (r.rep Y.inv.gnd.avlt) hσ fun s' Z fr=>hn _ _ _ Z ((Fr.sub hsub).tr ((Y.frk k1).tr fr)) e2
theorem yQ{e:Expr}{c:Str×Str×Pos×List Expr×Pos}(h:jS e=some c):∃ p,e=.Call (.Attribute (.Name c.1 p) c.2.1 c.2.2.1) c.2.2.2.1 [] c.2.2.2.2:=by
 obtain⟨c1,h1,h⟩:=ob h;obtain⟨a,h2,h⟩:=ob h;obtain⟨x,h3,h⟩:=ob h;have e1:=pS h1;have e2:=vZ h2;obtain⟨p,e3⟩:=cW h3;obtain⟨f,as,kws,q⟩:=c1;obtain⟨o,m,ap⟩:=a;cases kws with
 |cons=>exact ns h
 |nil =>
  obtain rfl:=si h;exact⟨p,by rw[e1,show f=_ from e2,show o=_ from e3]⟩
theorem Lj{rec:Scope→aA→Expr→R V}{C:Ctx}{F:Nat}(hbad:∀ sc σ e,bad e=true→rec sc σ e=.no)(hc:C.hd=hd)
  (ihr:∀ sc σ e,aE prog w mg mb base n hd (env::l₀) sc σ e (rec sc σ e)∧bO prog w mg mb base n hd (env::l₀) sc σ e (rec sc σ e))
  (h:∀ σ e,aE prog w mg mb base n hd (env::l₀) sc σ e (eI rec C sc σ e)) {t e:Expr} {pos:Pos}:aQ prog w mg mb base n hd l₀ env sc s₀ σ (exec (.Assign [t] e pos) env) fun kn _=>pL (eI rec C sc) F hd σ t e kn:=by
 unfold pL;cases hv:vw t with
 |name x =>
  obtain⟨p,rfl⟩:=cE hv;obtain⟨b,hsw⟩:=La (env:=env) e x p pos.line;cases b with
  |false=>exact Kv hsw (h _ e)
  |true =>
   have hcomp:=Lb hsw;cases e with
   |ListComp elt gens sc' cpos =>
    cases gens with
    |nil=>exact aQ.no
    |cons g gs =>
     cases gs with
     |cons=>exact aQ.no
     |nil =>
      show aQ prog w mg mb base n hd l₀ env sc s₀ σ _ fun kn _=>rb (hO rec C.hd sc _ elt g sc') fun v=>rb (ofP (cQ x v _)) kn;rw[hc];exact Lc hsw (hbad sc _) (ihr _ _ _).1 (fun _ _ _ _ _ a _=>(ihr _ _ a).1) (fun c _ σ'=>(ihr _ _ c).2) fun σ'=>(ihr _ _ elt).1
   |SetComp=>exact aQ.no
   |DictComp=>exact aQ.no
   |_=>exact bft hcomp
 |sub o i =>
  obtain⟨p,rfl⟩:=cE hv;show aQ prog w mg mb base n hd l₀ env sc s₀ σ _ fun kn _=>match bB o with | some x=>lX (eI rec C sc) F σ x i e kn | none=>.no
  cases hn:bB o with
  |none=>exact aQ.no
  |some x =>
   obtain⟨q,rfl⟩:=cW hn;show aQ prog w mg mb base n hd l₀ env sc s₀ σ _ fun kn _=>lX (eI rec C sc) F σ x i e kn;unfold lX;cases hm:jS e with
   |none=>exact yN h
   |some c =>
    obtain⟨y,m,ap,as,cp⟩:=c;show aQ prog w mg mb base n hd l₀ env sc s₀ σ _ fun kn _=>if m = "pop" then pK (eI rec C sc) (aA.clear σ (as.flatMap (esc F))) x i y ap as cp kn else lW (eI rec C sc) (aA.clear σ (esc F e)) x i e kn
    by_cases hp:m = "pop"
    ·subst hp;simp only[if_true];obtain⟨yp,rfl⟩:=yQ hm;exact K9 h
    ·simp only[if_neg hp];exact yN h
 |tup es =>
  obtain⟨k,p,rfl⟩:=cE hv;exact Lh (h _ e)
 |_=>exact aQ.no
theorem Lk{ev:EV}(hbad:∀ σ e,bad e=true→ev σ e=.no)(h:∀ σ e,aE prog w mg mb base n hd (env::l₀) sc σ e (ev σ e)){F:Nat}{e:Expr}{pos:Pos}:aQ prog w mg mb base n hd l₀ env sc s₀ σ (exec (.Expr e pos) env) fun kn _=>pM ev F σ e kn:=by
 unfold pM;cases hm:jS e with
 |some c =>
  obtain⟨x,m,ap,as,cp⟩:=c;obtain⟨xp,rfl⟩:=yQ hm;exact K2 hbad fun e _=>h _ e
 |none =>
  cases hc:lD e with
  |true=>exact aQ.no
  |false=>exact Kx hc (h _ e)
end
end Mine
namespace Mine
open PySem
section
variable {prog:Program} {w:World} {mg mb:Str→Option Value} {base:Heap} {n:Nat} {hd:Bool} {l₀:List Env} {env:Env} {sc:Scope} {av₀:Addr→Prop} {s₀:Shared} {σ:aA} {av:Addr→Prop} {s:Shared}
theorem aY.weaken{av₁:Addr→Prop}{h:Heap}{v:Value}{u:V}(hw:∀ b,av₀ b→av₁ b)(r:aY prog w s₀ h av₁ v u):aY prog w s₀ h av₀ v u:=by
 cases u with
 |ex x=>exact r
 |fz d=>exact(show Rep prog w h av₁ v d from r).mono (fun _ _ _ e=>e) fun b _ _ x=>hw b x
 |own d=>obtain⟨a,e,hn,rb⟩:=r;exact⟨a,e,hn,rb.mono (fun _ _ _ e=>e) (fun b _ _ x=>x.imp (hw b) id) fun _ e=>e⟩
theorem Ll{A:Around}{s₂:Shared}{t:Expr}{b:List Stmt}{it:Value}{wr:Addr→Prop}{St:Nat→Heap→Prop}{ds:List PyData}{body:aA→KN→KR→R V}
  (hA:Room n hd (env::l₀) A) (hh:A.handled=none) (Y:Act prog w mg mb base l₀ env sc av₀ s₀ σ av s) (hb:∀ σ,aQ prog w mg mb base n hd l₀ env sc s₀ σ (execs b env) (body σ))
  (k:Kp s s₂) (S:Src prog w A s.heap av t it wr St ds) (hst:St 0 s₂.heap) (hwr:∀ b,wr b→s.heap.get? b=none∧∃ o,s₂.heap.get? b=some o)
  {kn:KN} {kr:KR} {fin:R V} {Q:Flow→Shared→Prop} {E:Value→Shared→Prop} (hf:aT body t ds σ kn kr=fin) (hne:fin≠.no) (hp:PassesOwn (model prog w) A env E)
  (hn:∀ s' σ' av',Act prog w mg mb base l₀ env sc av₀ s₀ σ' av' s'→Fr (env::l₀) av₀ s av s' av'→kn σ'=fin→Q .next s') (hr:∀ v s' u,K l₀ s₀ s'→aY prog w s₀ s'.heap av₀ v u→kr u=fin→Q (.ret v) s')
  (he:∀ x v s',fin=.exc x→Upx prog w mg base l₀ env s₀ av₀ x v s'→E v s') :
  codeAny (model prog w) A (.forLoop t it b [] env) (fun r s'=>match r with | .ok f=>Q f s' | .error e=>cameBackBy (model prog w) A env E e s') s₂:=by
 have kk:K (env::l₀) s s₂:=K.of k;have Z:=Y.pin (S:=wr) kk (fun a ha=>(hwr a ha).1) (fun a ha=>(hwr a ha).2);have fr0:Fr (env::l₀) av₀ s av s₂ (fun b=>av b∨wr b):=⟨(Y.frk kk).keep,fun b o e h=>h.elim id (fun h=>by rw[(hwr b h).1] at e;exact ns e),(Y.frk kk).pins⟩
 have nw:∀ b,wr b→¬ Mn env b∧¬ av b∧¬ av₀ b∧s₀.heap.get? b=none∧¬ frs (env::l₀) b:=fun b h=>Y.newNot (hwr b h).1;have hM:∀ b,Mn env b→¬ wr b:=fun b m h=>(nw b h).1 m;have not0:∀ b,av₀ b→¬ wr b:=fun b x h=>(nw b h).2.2.1 x;have hf0:∀ b,frs l₀ b→av₀ b:=fun b h=>(Y.fr0 b h).1;refine codeAny_forLoop_any (fun k st=>∃ (i:Nat) (σi:aA) (avi:Addr→Prop),i+k=ds.length∧Act prog w mg mb base l₀ env sc (fun b=>av₀ b∨wr b) s₀ σi avi st∧Fr (env::l₀) av₀ s av st avi∧St i st.heap∧aT body t (ds.drop i) σi kn kr=fin) ?_ ds.length
  ⟨0,σ,_,Nat.zero_add _,Z,fr0,hst,hf⟩
 rintro k' st ⟨i,σi,avi,hi,X,fr,sti,hfi⟩
 by_cases hend:i=ds.length
 ·subst hend;rw[List.drop_length] at hfi;refine wpAny_mono (S.done st _ (fun s'=>Q .next s') sti fun h' tk hk=>hn _ σi (fun b=>avi b∧¬ wr b) ?_ (fr.tr ⟨fun b o e hb=>hk b o (fun hw=>hb (X.bas b (.inr hw))) e,fun _ _ _ h=>h.1,fun b o hb _ e=>hk b o (not0 b hb) e⟩) hfi) (fun r s₁ h₁=>?_) fun _ _ x=>x
  ·exact(X.weaken (fun b hb=>.inl hb) hf0).wildS (S:=wr) (fun b hb=>X.bas b (.inr hb)) (fun b h=>(nw b h).2.2.2.1) hM (fun x a h hw=>(X.ownA x a h).2.2.1 (.inr hw)) hk (fun b hb=>hb.1) (fun b hb hw=>⟨hb,hw⟩) (fun b hb hw=>absurd hw hb.2) (fun b hb=>⟨X.bas b (.inl hb),not0 b hb⟩)
  ·cases r with
   |none=>exact wpAny_execs_nil h₁
   |some v=>exact h₁.elim
 ·have hlt:i < ds.length:=by exact uM hi hend
  rw[List.drop_eq_getElem_cons hlt] at hfi;obtain⟨σ1,hasg,hfi⟩:=cX (show rb (ofP (aS t ds[i] σi)) (fun σ=>body σ (fun σ=>aT body t (ds.drop (i+1)) σ kn kr) kr)=fin from hfi) hne;refine wpAny_mono (S.item i ds[i] st _ ?QQ (List.getElem?_eq_getElem hlt) sti ?body) ?link fun _ _ x=>x
  case link =>
   intro r s₁ h₁;cases r with
   |none=>exact h₁.elim
   |some v=>exact h₁
  intro v h1 tk1 hk1 st1 hrep;have X1:Act prog w mg mb base l₀ env sc (fun b=>av₀ b∨wr b) s₀ σi avi { st with heap:=h1,toks:=tk1 } :=
   X.wildS (S:=wr) (fun b hb=>X.bas b (.inr hb)) (fun b h=>(nw b h).2.2.2.1) hM (fun x a h hw=>(X.ownA x a h).2.2.1 (.inr hw)) hk1 (fun b hb=>hb) (fun b hb _=>hb) (fun b _ hw=>S.live _ _ st1 b hw) X.bas
  have rv:=hrep avi X.inv.gnd.avlt fr.grow;have fr1:Fr (env::l₀) av₀ st avi { st with heap:=h1,toks:=tk1 } avi:=⟨fun b o e hb=>hk1 b o (fun hw=>hb (X.bas b (.inr hw))) e,fun _ _ _ h=>h,fun b o hb _ e=>hk1 b o (not0 b hb) e⟩
  refine yP hh X1 rv hasg fun s2 Y2 fr2=>wpAny_passesOwn hp ?_;refine hb σ1 _ A s2 avi hA Y2 hfi hne hp (fun s3 σ3 av3 Y3 fr3 e3=>?_) (fun v s' u k r e=>hr v s' u k (r.weaken fun _ h=>.inl h) e) fun x v s' e u=>he x v s' e (u.weaken fun _ h=>.inl h);have frA:=fr1.tr ((fr2.weaken fun b hb=>.inl hb).tr (fr3.weaken fun b hb=>.inl hb));refine⟨k' - 1,by exact oP hi hend,i+1,σ3,av3,by exact oQ hi hend,Y3,fr.tr frA,S.frame _ _ _ st1 (fun b o hw e=>fr3.pins b o (.inr hw) (nw b hw).2.2.2.2 (fr2.pins b o (.inr hw) (nw b hw).2.2.2.2 e)) (fr.tr frA).keep,e3⟩
theorem Lm{rec:Expr→R V}{t it:Expr}{k:List PyData→R V}{fin:R V}(h:rb (eS rec hd sc t it) k=fin)(hne:fin≠.no):hd=false:=by
 cases hd with
 |false=>rfl
 |true=>exact absurd h.symm hne
theorem Ln{ev:EV}(hbad:∀ σ e,bad e=true→ev σ e=.no)(h:∀ σ e,aE prog w mg mb base n hd (env::l₀) sc σ e (ev σ e)){t it:Expr}{b:List Stmt}{pos:Pos}{xs:List Str}{body:aA→KN→KR→R V}
  (hb:∀ σ,aQ prog w mg mb base n hd l₀ env sc s₀ σ (execs b env) (body σ)) :
  aQ prog w mg mb base n hd l₀ env sc s₀ σ (exec (.For t it b [] pos) env) fun kn kr=>rb (eS (ev (aA.clear σ xs)) hd sc t it) fun l=>aT body t l (aA.clear σ xs) kn kr:=by
 intro av₀ A s av hA X kn kr fin Q E hf hne hp hn hr he;obtain⟨av1,Y,hsb⟩:=X.clear xs;have hh:=hA.handled (Lm hf hne);have hb':bad it=false:=eL (fun e=>yC (hbad _) e) (Fin.ne ⟨hf,hne⟩);have hs:∀ x,foldedSetIterable it env x=pure x:=fun x=>by
  unfold foldedSetIterable;cases it<;>first | rfl | cases hb'
 refine wpAny_For (xX (target:=t) (hbad _) (h _ it) (fun _ _ _ _ _ a _=>h _ a) A env s av1 hA Y.inv ⟨hf,hne⟩ (fun itv s₂ ds x e=>?_) fun x v s' e f=>he x v s' e (Y.up f)) hs;obtain⟨s₁,wr,St,k0,S,hst,hwr,k2,_⟩:=x;exact Ll hA hh (Y.k k0) hb k2 S hst hwr e hne hp (fun s' σ' av' Z f e=>hn s' σ' av' Z ((Fr.sub hsb).tr ((Y.frk k0).tr f)) e) hr he
end
end Mine
namespace Mine
open PySem
section
variable {M:Model} {A:Around} {E:Value→Shared→Prop} {env:Env}
variable {nm q:Str} {C N:Addr} {bs bm:List Value} {hdct:Bool} {sn:List Str} {sub:List Value} {ab:Bool} {col:Option Bool} {dd:Option Addr} {k0 k1 k2 k3 k5:Option Value} {newId:String}
theorem Lo{s:Shared}{x:Sem Value}{Q:Flow→Shared→Prop}(hbase:bm.contains (.type "BaseException")=true)(hh:A.handled=none)
  (h:wpAny M A x (fun v s₁=>∃ (e:Addr) (dx:Option Addr) (t:Addr),v=.ref e∧s₁.heap.get? C=some (excClassObj nm q C N bs bm hdct sn sub ab col dd k0 k1 k2 k3 k5 newId)∧s₁.heap.get? e=some { cls:=.ref C,dict:=dx,data:=.fields #[.ref t,.none,.none,.none,.bool false,.none] }∧E (.ref e) s₁) E s) :
  wpAny M A (raiseStmt env (some x) none) Q E s:=by
 have hcB:(Value.ref C::bm).contains (.type "BaseException")=true:=by rw[List.contains_cons,hbase,Bool.or_true]
 unfold raiseStmt;refine wpAny_bind (wpAny_mono h (fun v s₁ h₁=>?_) fun _ _ x=>x);obtain⟨e,dx,t,rfl,hC,he,hE⟩:=h₁;obtain⟨hp,g,d,tk,os⟩:=s₁
 repeat (first | with_reducible refine wpAny_loadPart_at he ?_ | with_reducible refine wpAny_loadPart_at hC ?_ | (with_reducible refine wpAny_isSubtype_exc hC ?_;rw[hcB]) | wp_step)
 exact wpAny_raiseNew_none hh hE
theorem Lp{s:Shared}{x:Str}{np cpos pos:Pos}{args:List Expr}{Q:Flow→Shared→Prop}(hbase:bm.contains (.type "BaseException")=true)(hh:A.handled=none)(hs:args.any bad=false)
  (h:wpAny M A (eval (.Name x np) env) (fun f s₁=>f=.ref C∧wpAny M A (spliced (backTo cpos (starEach args env))) (fun vs s₂=>s₂.heap.get? C=some (excClassObj nm q C N bs bm hdct sn sub ab col dd k0 k1 k2 k3 k5 newId) ∧
   wpAny M A (call (.ref C) vs) (fun v s₃=>∃ (e:Addr) (dx:Option Addr) (t:Addr),v=.ref e∧s₃.heap.get? C=some (excClassObj nm q C N bs bm hdct sn sub ab col dd k0 k1 k2 k3 k5 newId)∧s₃.heap.get? e=some { cls:=.ref C,dict:=dx,data:=.fields #[.ref t,.none,.none,.none,.bool false,.none] }∧E (.ref e) s₃) E s₂) E s₁) E s) :
  wpAny M A (exec (.Raise (some (.Call (.Name x np) args [] cpos)) none pos) env) Q E s:=by
 have hplain:=mT (env:=env) (pos:=cpos) hs;rw[arm_exec_Raise];refine wpAny_bind (wpAny_standAt (Lo (C:=C) (nm:=nm) (q:=q) (N:=N) (bs:=bs) (bm:=bm) (hdct:=hdct) (sn:=sn) (sub:=sub) (ab:=ab) (col:=col) (dd:=dd) (k0:=k0) (k1:=k1) (k2:=k2) (k3:=k3) (k5:=k5) (newId:=newId) hbase hh ?_));refine wpAny_bind (wpAny_mono (wpAny_Call_ofName (wpAny_mono h (fun f s₁ h₁=>?_) fun _ _ x=>x)) (fun v s₃ h₃=>wpAny_bind (wpAny_standAt (wpAny_pure h₃))) fun _ _ x=>x);obtain⟨rfl,h₁⟩:=h₁;unfold callWith;refine wpAny_bind (wpAny_holding (mS hs (wpAny_mono h₁ (fun a s₂ h₂=>wpAny_bind (wpAny_standAt ?_)) fun _ _ x=>x)));obtain⟨hC,h₂⟩:=h₂;simp only[hplain];obtain⟨hp,g,d,tk,os⟩:=s₂;refine wpAny_bind (wpAny_keeperOf_exc hC ?_);exact wpAny_bind (wpAny_mono h₂ (fun v s₃ h₃=>wpAny_bind (wpAny_holding (wpAny_point (wpAny_pure h₃)))) fun _ _ x=>x)
end
section
variable {prog:Program} {w:World} {A:Around} {E:Value→Shared→Prop} {h:Heap} {g:Array GenState} {d:Drawn} {t:Nat} {os:OsState}
variable {nm q:Str} {C N:Addr} {bs bm bmB:List Value} {hdct:Bool} {sn:List Str} {sub:List Value} {ab:Bool} {col:Option Bool} {dd:Option Addr} {k0 k1 k2 k3 k5:Option Value} {B newId initId:String}
theorem Lq(F:ExcBaseFacts B newId initId bmB)(T:OwnTail h bmB bm){mN:Str→Option Value}{rest:List Value}{fI:Addr}{oI:Obj}{Q:Value→Shared→Prop}
  (hC:h.get? C=some (excClassObj nm q C N bs bm hdct sn sub ab col dd k0 k1 k2 k3 k5 newId)) (hn:h.Ns N mN) (hi:mN "__init__" = some (.ref fI)) (hfI:h.get? fI=some oI) (hfc:oI.cls=.type "function") (hrest:rest.length≤sizeLine)
  (hq:∀ h' e,Heap.MadeExcOf h h' e (.ref C) rest →
   wpAny (model prog w) (A.under (.builtin "type.__call__" ⟨.ref C::rest,[]⟩)) (call (.ref fI) (.ref e::rest)) (fun r s'=>r=.none∧Q (.ref e) s') E ⟨h',g,d,t,os⟩) :
  wpAny (model prog w) A (call (.ref C) rest) Q E ⟨h,g,d,t,os⟩:=by
 have f1:=tc_lookup;have f2:=tc_bind (.ref C);have hT:(⟨h,g,d,t,os⟩:Shared).TypeIs (.ref C) "type" := ⟨_,hC,rfl⟩
 refine wpAny_call (codeAny_of_tree ?_);show wpAny _ _ (callAny (.ref C) _) _ _ _
 repeat (any_goals (first | assumption | with_reducible refine wpAny_loadPart_at hC ?_ | wp_step))
 refine⟨rfl,?_⟩;refine codeAny_call_builtin_at (Code.quiet_builtin _ (by decide +kernel)) entry_typeCall (wpAny_check_type_call_sub hC ?_)
 repeat (first | with_reducible refine wpAny_loadPart_at hC ?_ | with_reducible refine wpAny_madeBy_exc hC ?_ | wp_step)
 refine codeAny_call_builtin_code (Code.quiet_builtin _ F.quiet) (wpAny_check_new_subT F T hC (codeAny_exc_new_subT F T hC ?_ hrest));show wpAny _ _ _ _ _ ⟨(h.push { cls:=.type "tuple", data:=.seq rest.toArray }).push { cls:=.ref C,data:=.fields #[.ref h.objs.size,.none,.none,.none,.bool false,.none] },g,d,t,os⟩;generalize hH:(h.push { cls:=.type "tuple", data:=.seq rest.toArray }).push { cls:=.ref C,data:=.fields #[.ref h.objs.size,.none,.none,.none,.bool false,.none] }=H;have up:∀ b o,h.get? b=some o→H.get? b=some o:=fun b o e=>hH▸Heap.get?_push_of_some _ (Heap.get?_push_of_some _ e);have hget:H.get? (h.objs.size+1)=some { cls:=.ref C,data:=.fields #[.ref h.objs.size,.none,.none,.none,.bool false,.none] }:=by subst hH;heap_get
 have htup:H.get? h.objs.size=some { cls:=.type "tuple", data:=.seq rest.toArray }:=by subst hH;exact Heap.get?_push_of_some _ (Heap.get?_push_at rfl rfl)
 have hC₁:=up _ _ hC;have hcC:(Value.ref C::bm).contains (.ref C)=true:=by simp
 unfold isInstance
 repeat (first | with_reducible refine wpAny_loadPart_at hget ?_ | (with_reducible refine wpAny_isSubtype_exc hC₁ ?_;rw[hcC]) | wp_step)
 show wpAny _ _ (typeLookup (.ref C) _) _ _ _;refine wpAny_typeLookup_tail hC₁ (hn.keeps up) (T.keeps up) F.mroIs F.init.lookup ?_;rw[hi];refine wpAny_holding (wpAny_bind ?_);unfold bindSpecial;refine wpAny_bind (wpAny_typeOf (T := "function") ⟨_,up _ _ hfI,hfc⟩ ?_);rw[if_pos (by decide)];refine wpAny_pure (wpAny_bind (wpAny_mono (hq H (h.objs.size+1) ⟨up,Heap.get?_none_of_le (Nat.le_succ _),h.objs.size,hget,Heap.get?_none_of_le (Nat.le_refl _),htup⟩) (fun r s' hr=>?_) fun _ _ x=>x));obtain⟨rfl,hQ⟩:=hr
 wp_walk
 exact hQ
end
end Mine
namespace Mine
open PySem Builtin Builtin.ObjectAttr
inductive TailN(h:Heap)(bmB:List Value)(ns:List Str):List Value→Prop
 |base:TailN h bmB ns bmB
 |own {A:Addr} {c0:Value} {dd:Option Addr} {cd:ClassData} {sl:Array (Option Value)} {mA:Str→Option Value} {tl:List Value} :
   h.get? A=some { cls:=c0,dict:=dd,data:=.cls cd,slots:=sl }→h.Ns cd.ns mA→(∀ n∈ns,mA n=none)→TailN h bmB ns tl→TailN h bmB ns (.ref A::tl)
theorem TailN.tail{h:Heap}{bmB tl:List Value}{ns:List Str}(hi:Str.ofString "__init__" ∈ ns)(T:TailN h bmB ns tl):OwnTail h bmB tl:=by
 induction T with
 |base=>exact .base
 |own h1 h2 h3 _ ih=>exact .own h1 h2 (h3 _ hi) ih
theorem TailN.keeps{h h':Heap}{bmB tl:List Value}{ns:List Str}(hk:∀ b o,h.get? b=some o→h'.get? b=some o)(T:TailN h bmB ns tl):TailN h' bmB ns tl:=by
 induction T with
 |base=>exact .base
 |own h1 h2 h3 _ ih=>exact .own (hk _ _ h1) (h2.keeps hk) h3 ih
theorem TailN.less{h:Heap}{bmB tl:List Value}{ns ns':List Str}(hs:∀ n∈ns',n∈ns)(T:TailN h bmB ns tl):TailN h bmB ns' tl:=by
 induction T with
 |base=>exact .base
 |own h1 h2 h3 _ ih=>exact .own h1 h2 (fun n hn=>h3 n (hs n hn)) ih
theorem TailN.refuse{h:Heap}{bmB tl:List Value}{ns:List Str}(T:TailN h bmB ns tl){self:Value}{what:Str}(hp:refuseLoop self what bmB=pure ()):refuseLoop self what tl=pure ():=by
 induction T with
 |base=>exact hp
 |own _ _ _ _ ih=>rw[refuseLoop_ref];exact ih
section
variable {M:Model} {A:Around} {E:Value→Shared→Prop} {h:Heap} {g:Array GenState} {d:Drawn} {t:Nat} {os:OsState}
variable {nm q:Str} {C N:Addr} {bs bm bmB:List Value} {hdct:Bool} {sn:List Str} {sub:List Value} {ab:Bool} {col:Option Bool} {dd:Option Addr} {k0 k1 k2 k3 k5:Option Value} {B newId:String} {mN:Str→Option Value} {ns:List Str}
theorem Lr{tl:List Value}{n:Str}{y:Option Value}{Q:Option Value→Shared→Prop}(T:TailN h bmB ns tl)(hn:n∈ns)(hrest:lookupAlong bmB n=pure y)(hq:Q y ⟨h,g,d,t,os⟩):wpAny M A (lookupAlong tl n) Q E ⟨h,g,d,t,os⟩:=by
 induction T with
 |base=>rw[hrest];exact wpAny_pure hq
 |own h1 h2 h3 _ ih =>
  rw[lookupAlong_cons];refine wpAny_bind (wpAny_classOwn_cls h1 h2 ?_);rw[h3 n hn];exact ih
theorem jZ{n:Str}{y:Option Value}{Q:Option Value→Shared→Prop}(hC:h.get? C=some (excClassObj nm q C N bs bm hdct sn sub ab col dd k0 k1 k2 k3 k5 newId))(hN:h.Ns N mN)(T:TailN h bmB ns bm)(hbm:mroOf (.type B)=pure bmB)(hn:n∈ns)(h0:mN n=none)
  (hB:typeLookup (.type B) n=pure y) (hq:Q y ⟨h,g,d,t,os⟩):wpAny M A (typeLookup (.ref C) n) Q E ⟨h,g,d,t,os⟩:=by
 have hrest:lookupAlong bmB n=pure y:=by rw[typeLookup_eq,hbm] at hB;exact hB
 rw[typeLookup_eq];refine wpAny_bind (wpAny_mroOf_exc hC ?_);rw[lookupAlong_cons];refine wpAny_bind (wpAny_classOwn_exc hC hN ?_);rw[h0];exact Lr T hn hrest hq
end
inductive InD(G:Addr→Prop)(h:Heap)(e:Addr)(ns:List Str)(m:Str→Option Value)(dx:Option Addr):Prop where
 |mk (d:Addr) (e1:dx=some d) (n:d≠e) (g:¬ G d) (hn:h.Ns1 d m) (w:Within m ns):InD G h e ns m dx
inductive InE(G:Addr→Prop)(h:Heap)(e C t:Addr)(ns:List Str)(m:Str→Option Value):Prop where
 |mk (dx:Option Addr) (he:h.get? e=some { cls:=.ref C,dict:=dx,data:=.fields #[.ref t,.none,.none,.none,.bool false,.none] }) (hd:(dx=none∧∀ y,m y=none)∨InD G h e ns m dx):InE G h e C t ns m
section
variable {prog:Program} {w:World} {A:Around} {E:Value→Shared→Prop} {h:Heap} {g:Array GenState} {d:Drawn} {t:Nat} {os:OsState}
variable {nm q:Str} {C N e tt:Addr} {bs bm bmB:List Value} {sn:List Str} {sub:List Value} {ab:Bool} {col:Option Bool} {dd:Option Addr} {k0 k1 k2 k3 k5:Option Value} {B newId sa owner:String} {mN:Str→Option Value} {ns vs:List Str} {name:Str} {v:Value}
theorem Ls{M:Model}{o:Obj}{nameV:Value}{Q:Unit→Shared→Prop}(SF:StoreFacts B bmB sa owner)(hb:bm.contains (.type owner)=true)
  (hC:h.get? C=some (excClassObj nm q C N bs bm true sn sub ab col dd k0 k1 k2 k3 k5 newId)) (hx:h.get? e=some o) (hc:o.cls=.ref C) (hq:Q () ⟨h,g,d,t,os⟩) :
  wpAny M A (checkBuiltinCall sa ⟨[.ref e,nameV,v],[]⟩) Q E ⟨h,g,d,t,os⟩:=by
 have hcB:(Value.ref C::bm).contains (.type owner)=true:=by rw[List.contains_cons,hb,Bool.or_true]
 have ha:=SF.args (.ref e) nameV v;simp only[checkBuiltinCall,SF.kind,SF.split];refine wpAny_bind ?_;unfold isInstance
 repeat (first | (with_reducible refine wpAny_loadPart_at hx ?_;rw[hc]) | (with_reducible refine wpAny_isSubtype_exc hC ?_;rw[hcB]) | wp_step)
 cases hsig:Manifest.signature? sa with
 |none=>exact wpAny_pure hq
 |some sig =>
  simp only[argsOk,hsig] at ha;have h2:Bind.checkArgs sa sig ⟨[.ref e,nameV,v],[]⟩=pure ():=ha;show wpAny M A (Bind.checkArgs sa sig ⟨[.ref e,nameV,v],[]⟩) Q E _;rw[h2];exact wpAny_pure hq
theorem yR{dx:Addr}{m:Str→Option Value}{tk:Tok}{Q:PySem.Fin→Shared→Prop}(hn:h.Ns1 dx m)(hw:Within m vs)(hl:vs.length < 100)
  (hq:∀ h' tk',h'.Ns1 dx (fun y=>if y=name then some v else m y)→Heap.SameBut dx h h'→Q (.done (.ret .none)) ⟨h',g,d,tk',os⟩):wpAny (model prog w) A (storeInDict dx (.str name tk) name v) Q E ⟨h,g,d,t,os⟩:=by
 unfold storeInDict newKeyGuard;refine wpAny_bind (wpAny_pure (wpAny_bind (wpAny_nsSet1 hn fun h' hn' hs=>?_)));obtain⟨oD,esD,epD,hoD,hdD,hcD⟩:=hn'.count (Within.cons name v hw);refine wpAny_bind (wpAny_lookBehind hoD (by rw[hdD];exact pastItsLine_dict (Nat.le_trans hcD (by rw[List.length_cons,sizeLine_eq];exact C9 hl))) ?_)
 wp_walk
 exact hq h' _ hn' hs
theorem Lu{G:Addr→Prop}{m:Str→Option Value}{Q:Unit→Shared→Prop}(SF:StoreFacts B bmB sa owner)(hb:bm.contains (.type owner)=true)(hC:h.get? C=some (excClassObj nm q C N bs bm true sn sub ab col dd k0 k1 k2 k3 k5 newId))(hN:h.Ns N mN)(T:TailN h bmB ns bm)
  (hs0:Str.ofString "__setattr__" ∈ ns) (hs1:mN "__setattr__" = none) (hn0:name∈ns) (hn1:mN name=none) (hB:typeLookup (.type B) name=pure none) (I:InE G h e C tt vs m) (hG:∀ b,G b→b≠e∧∃ o,h.get? b=some o) (hl:vs.length < 100)
  (hq:∀ h' tk,InE G h' e C tt (name::vs) (fun y=>if y=name then some v else m y)→(∀ b o,G b→h.get? b=some o→h'.get? b=some o)→Q () ⟨h',g,d,tk,os⟩):wpAny (model prog w) A (setAttr (.ref e) name v) Q E ⟨h,g,d,t,os⟩:=by
 obtain⟨dx,hx,hd⟩:=I;have f3:=SF.slot.bind (.ref e);have hpass:=T.refuse (SF.passes (.ref e));have hZ:sizeLine=16777216:=rfl;unfold setAttr callSpecial? specialOf
 repeat (any_goals (first | assumption | with_reducible refine wpAny_loadPart_at hx ?_ | with_reducible refine jZ hC hN T SF.mro hs0 hs1 SF.slot.lookup ?_ | wp_step))
 refine codeAny_call_builtin SF.slot.plain SF.entry (Ls SF hb hC hx rfl ?_);unfold Builtin.«object.__setattr__»
 repeat (first | rw[refuse_eq] | (rw[refuseLoop_ref,hpass]) | with_reducible refine wpAny_loadPart_at hx ?_ | with_reducible refine wpAny_mroOf_exc hC ?_ | with_reducible refine jZ hC hN T SF.mro hn0 hn1 hB ?_ | wp_step)
 rcases hd with ⟨rfl,hm0⟩ | ⟨dx,rfl,hne,hGd,hns,hw⟩
 ·have hxs:e≠h.objs.size:=Nat.ne_of_lt (Heap.lt_size hx);have hx₁:(h.push { cls:=.type "dict", data:=.dict #[] }).get? e=_:=Heap.get?_push_of_some _ hx;rw[if_neg (by simp[typeHasDict])];refine wpAny_bind (wpAny_alloc' (wpAny_bind (wpAny_update' hx₁ (wpAny_pure ?_))));generalize hH:((h.push { cls:=.type "dict", data:=.dict #[] }).update e fun o=>{ cls:=o.cls,dict:=some h.objs.size,data:=o.data,slots:=o.slots })=H;have hgd:H.get? h.objs.size=some { cls:=.type "dict", data:=.dict #[] }:=by subst hH;exact(Heap.get?_update_ne _ _ _ _ hxs.symm).trans (Heap.get?_push_at rfl rfl)
  have hge:H.get? e=some { cls:=.ref C,dict:=some h.objs.size,data:=.fields #[.ref tt,.none,.none,.none,.bool false,.none] }:=by subst hH;exact Heap.get?_update_self _ hx₁ rfl
  have hgo:∀ b o,b≠e→h.get? b=some o→H.get? b=some o:=fun b o hb e=>by subst hH;exact(Heap.get?_update_ne _ _ _ _ hb).trans (Heap.get?_push_of_some _ e)
  have hnd:H.Ns h.objs.size (fun _=>none):=⟨_,#[],_,hgd,rfl,fun e he=>absurd he (by simp),fun _=>rfl⟩
  obtain rfl:m=fun _=>none:=funext hm0;refine yR (vs:=vs) (Heap.Ns1.of_empty hnd) (fun _ h=>absurd rfl h) hl fun h' tk' hn' hs=>wpAny_pure (wpAny_pure (hq h' _ ⟨some h.objs.size,(hs.2 e hxs).trans hge,.inr ⟨_,rfl,hxs.symm,fun x=>?_,hn',Within.cons name v fun _ h=>absurd rfl h⟩⟩ fun b o hb eb=>?_))
  ·obtain⟨_,o,ho⟩:=hG _ x;rw[bL] at ho;cases ho
  ·exact(hs.2 b (Nat.ne_of_lt (Heap.lt_size eb))).trans (hgo b o (hG b hb).1 eb)
 ·refine wpAny_pure (yR hns hw hl fun h' tk' hn' hs=>wpAny_pure (wpAny_pure (hq h' _ ⟨some dx,(hs.2 e hne.symm).trans hx,.inr ⟨_,rfl,hne,hGd,hn',Within.cons name v hw⟩⟩ fun b o hb eb=>(hs.2 b fun x=>hGd (x▸hb)).trans eb)))
end
end Mine
namespace Mine
open PySem
theorem qQ{α:Type}:∀ {ps:List Str} {us:List α} {x:Str} {v:α},(ps.zip us).lookup x=some v→∃ i:Nat,ps[i]?=some x∧us[i]?=some v
 | [],_,_,_,h=>by simp at h
 |_::_,[],_,_,h=>by simp at h
 |p::ps,u::us,x,v,h=>by
  rw[List.zip_cons_cons,List.lookup_cons] at h;refine bcs (x==p) (fun hb=>?_) fun hb=>?_
  ·try rewrite[hb]
   rw[hb] at h;obtain⟨i,h1,h2⟩:=qQ h;exact⟨i+1,by simpa using h1,by simpa using h2⟩
  ·try rewrite[hb]
   rw[hb] at h;obtain rfl:=si h;exact⟨0,by simp[beq_iff_eq.mp hb],rfl⟩
theorem qR{α:Type}:∀ {ps:List Str} {us:List α} {x:Str} {v:α} {i:Nat},ps.Nodup→ps[i]?=some x→us[i]?=some v→(ps.zip us).lookup x=some v
 | [],_,_,_,_,_,h,_=>by simp at h
 |_::_,[],_,_,_,_,_,h=>by simp at h
 |p::ps,u::us,x,v,i,hn,h1,h2=>by
  rw[List.zip_cons_cons,List.lookup_cons];cases i with
  |zero =>
   simp at h1 h2;subst h1;subst h2;simp
  |succ i =>
   simp at h1 h2;have hne:(x==p)=false:=by
    rw[beq_eq_false_iff_ne];intro e;subst e;exact(List.nodup_cons.mp hn).1 (List.mem_of_getElem? h1)
   rw[hne];exact qR (List.nodup_cons.mp hn).2 h1 h2
theorem yS:∀ (ps:List Str) (vs:List Value) (f:Str→Option Value),ps.length=vs.length→(∀ (i:Nat) x v,ps[i]?=some x→vs[i]?=some v→f x=some v)→(ps.filterMap fun n=>(f n).map (n,·))=ps.zip vs
 | [],[],_,_,_=>rfl
 | [],_::_,_,h,_=>by simp at h
 |_::_,[],_,h,_=>by simp at h
 |p::ps,v::vs,f,hl,h=>by
  have h0:=h 0 p v rfl rfl;rw[List.filterMap_cons,h0,List.zip_cons_cons];simp only[Option.map_some];rw[yS ps vs f (by simpa using hl) fun i x v' h1 h2=>h (i+1) x v' (by simpa using h1) (by simpa using h2)]
theorem yT{α:Type}{c:Bool}{x y z:α}(h:c=false)(e:y=z):(if c=true then x else y)=z:=by rw[h];exact e
theorem yU{fd:FuncData}{as:List Arg}{kwd:List (Option Expr)}{dfl:List Expr}{vals:List Value}(hp:fd.params=⟨[],as,none,[],kwd,none,dfl⟩)(hd:fd.defaults=.none)(hl:as.length=vals.length)(hn:(as.map (·.arg)).Nodup) :
  bindArgs fd ⟨vals,[]⟩=pure ((as.map (·.arg)).zip vals):=by
 have hf:((as.map (·.arg)).filterMap fun n=>(((as.map (·.arg)).zip vals).lookup n).map (n,·))=(as.map (·.arg)).zip vals :=
  yS _ _ _ (by simpa using hl) fun i x v h1 h2=>qR hn h1 h2
 have hm:((as.map (·.arg)).filter fun n=>(((as.map (·.arg)).zip vals).lookup n).isNone)=[]:=by
  rw[List.filter_eq_nil_iff];intro x hx;obtain⟨i,hi⟩:=List.mem_iff_getElem?.mp hx;have hlt:i < vals.length:=by
   have:=(List.getElem?_eq_some_iff.mp hi).1;simp at this;exact Da hl this
  rw[qR hn hi (List.getElem?_eq_getElem hlt)];simp
 obtain⟨nm,qn,pr,bd,sc,gl,cl,df,kd,dc,pm,an,cd,ct,bt⟩:=fd;obtain rfl:pr=_:=hp;obtain rfl:df=_:=hd;refine yT (c:=decide (vals.length > (as.map (·.arg)).length)&&true) (by simp[hl]) ?_;dsimp only [List.map_nil,List.nil_append,Option.getD_none,Array.toList_empty,List.length_nil,List.append_nil];simp only[List.drop_nil];refine yT (c:=!(List.filter (fun n=>(((as.map (·.arg)).zip vals).lookup n).isNone) (List.take ((as.map (·.arg)).length - 0) (as.map (·.arg)))).isEmpty) ?_ ?_
 ·rw[Nat.sub_zero,List.take_length];exact congrArg (fun l=>!List.isEmpty l) hm
 ·dsimp only [List.length_nil,Nat.sub_zero];simp only[List.drop_length];exact congrArg (pure (f:=Sem)) ((congrArg (List.filterMap _) (List.append_nil _)).trans hf)
theorem yV{kindOf:Str→Option NameKind}:∀ {ps:List Str} {vs:List Value} {m:Str→Option Value} {x:Str},x∉ps→bindL kindOf (ps.zip vs) m x=m x
 | [],_,_,_,_=>rfl
 |_::_,[],_,_,_=>rfl
 |p::ps,v::vs,m,x,h=>by
  show bindL kindOf (ps.zip vs) _ x=m x;simp at h;rw[yV h.2]
  split
  ·exact if_neg h.1
  ·rfl
theorem qS{kindOf:Str→Option NameKind}:∀ {ps:List Str} {vs:List Value} {m:Str→Option Value} {x:Str} {v:Value} {i:Nat},ps.Nodup→ps[i]?=some x→vs[i]?=some v→kindOf x=some .local→bindL kindOf (ps.zip vs) m x=some v
 | [],_,_,_,_,_,_,h,_,_=>by simp at h
 |_::_,[],_,_,_,_,_,_,h,_=>by simp at h
 |p::ps,u::vs,m,x,v,i,hn,h1,h2,hk=>by
  show bindL kindOf (ps.zip vs) _ x=some v;obtain⟨n1,n2⟩:=List.nodup_cons.mp hn;cases i with
  |zero =>
   simp at h1 h2;subst h1;subst h2;rw[yV n1,if_pos hk];exact if_pos rfl
  |succ i=>exact qS n2 (by simpa using h1) (by simpa using h2) hk
theorem Lv{st:Stmt}{c:Str×Str×Str}(h:l9 st=some c):∃ p1 p2 p3 pos,st=.Assign [.Attribute (.Name c.1 p1) c.2.1 p2] (.Name c.2.2 p3) pos:=by
 cases st with
 |Assign ts e pos =>
  cases ts with
  |nil=>exact ns h
  |cons t r =>
   cases r with
   |cons=>exact ns h
   |nil =>
    obtain⟨a,h1,h⟩:=ob h;obtain⟨x,h2,h⟩:=ob h;obtain⟨y,h3,h⟩:=ob h;obtain rfl:=si h;obtain⟨p1,e1⟩:=cW h2;obtain⟨p3,rfl⟩:=cW h3;exact⟨p1,a.2.2,p3,pos,by rw[vZ h1,e1]⟩
 |_=>exact ns h
structure InitF(fd:FuncData)(sf:Str)(ps:List Str):Prop where
 params:∃ as kwd dfl,fd.params=⟨[],as,none,[],kwd,none,dfl⟩∧as.map (·.arg)=sf::ps
 body:∃ b,fd.body=.stmts b∧b.map l9=ps.map fun p=>some (sf,p,p)
 closure:fd.closure=[]
 defaults:fd.defaults=.none
 kind:fd.scope.kind=.function
 gen:fd.scope.isGenerator=false
 cor:fd.scope.isCoroutine=false
 nodup:(sf::ps).Nodup
 loc:∀ x∈sf::ps,fd.scope.names.lookup x=some .local∧(x==("__debug__" : Str))=false
 few:ps.length < 50
section
variable {prog:Program} {w:World} {A:Around} {E:Value→Shared→Prop}
variable {nm q:Str} {C N e tt:Addr} {bs bm bmB:List Value} {sn:List Str} {sub:List Value} {ab:Bool} {col:Option Bool} {dd:Option Addr} {k0 k1 k2 k3 k5:Option Value} {B newId sa owner:String} {mN:Str→Option Value}
theorem Lw{env:Env}{m:Str→Option Value}{self:Str}{ns:List Str}{h0 h1:Heap}(SF:StoreFacts B bmB sa owner)(hb:bm.contains (.type owner)=true)(hk:env.scope.kind=.function)
  (hC:h0.get? C=some (excClassObj nm q C N bs bm true sn sub ab col dd k0 k1 k2 k3 k5 newId)) (hN:h0.Ns N mN) (T:TailN h0 bmB ns bm) (h01:∀ b o,h0.get? b=some o→h1.get? b=some o) (he:h0.get? e=none) (hL:h1.Ns env.locals m) (hLe:env.locals≠e)
  (hs0:Str.ofString "__setattr__" ∈ ns) (hs1:mN "__setattr__" = none) (hself:m self=some (.ref e)) (hsl:env.kindOf self=some .local∧(self==("__debug__" : Str))=false) :
  ∀ {ps:List Str} {b:List Stmt} {vs:List Str} {F:Str→Option Value} {s:Shared} {Q:Flow→Shared→Prop},b.map l9=(ps.map fun p=>some (self,p,p))→(∀ p∈ps,p∈ns∧mN p=none∧typeLookup (.type B) p=pure none∧env.kindOf p=some .local∧(p==("__debug__" : Str))=false∧∃ v,m p=some v) →
   vs.length+ps.length < 100→InE (fun b=>b≠e∧∃ o,h1.get? b=some o) s.heap e C tt vs F→(∀ y∈vs,F y=m y)→(∀ b o,b≠e→h1.get? b=some o→s.heap.get? b=some o) →
   (∀ s' vs' F',(∃ h tk,s'={ s with heap:=h,toks:=tk })→InE (fun b=>b≠e∧∃ o,h1.get? b=some o) s'.heap e C tt vs' F'→(∀ y,y∈ps∨y∈vs→F' y=m y)→(∀ b o,b≠e→h1.get? b=some o→s'.heap.get? b=some o)→Q .next s')→wpAny (model prog w) A (execs b env) Q E s:=by
 intro ps
 induction ps with
 |nil =>
  intro b vs F s Q hb' _ _ I hF hk' hq;cases b with
  |nil=>exact wpAny_execs_nil (hq s vs F ⟨_,_,rfl⟩ I (fun y hy=>hF y (hy.elim (fun h=>bT h) id)) hk')
  |cons=>cases hb'
 |cons p ps ih =>
  intro b vs F s Q hb' hp hl I hF hk' hq;cases b with
  |nil=>cases hb'
  |cons st r =>
   injection hb' with hb1 hb2
   obtain⟨p1,p2,p3,pos,rfl⟩:=Lv hb1;obtain⟨q1,q2,q3,q4,q5,v,q6⟩:=hp p List.mem_cons_self;have up:∀ b o,h0.get? b=some o→s.heap.get? b=some o:=fun b o eo=>hk' b o (fun x=>by rw[x,he] at eo;cases eo) (h01 b o eo);have hns:s.heap.Ns env.locals m:=hL.at' fun o eo=>hk' _ o hLe eo;refine wpAny_execs_cons (plainObj_wpAny_Assign_Attribute (wpAny_Name (wpAny_loadName_local hk q4 hns q6 (wpAny_Name (wpAny_loadName_local hk hsl.1 hns hself ?_) hsl.2)) q5) rfl);obtain⟨hh,g,dr,tk,os⟩:=s;refine Lu SF hb (up _ _ hC) (hN.keeps up) (T.keeps up) hs0 hs1 q1 q2 q3 I (fun b hb=>⟨hb.1,by obtain⟨o,eo⟩:=hb.2;exact⟨o,hk' b o hb.1 eo⟩⟩) (by simp at hl;exact Db hl) fun h' tk' I' kp=>?_;refine ih hb2 (fun p m=>hp p (List.mem_cons_of_mem _ m)) (by simp at hl ⊢;exact Dc hl) I' (fun y hy=>?_) (fun b o hb eo=>kp b o ⟨hb,o,eo⟩ (hk' b o hb eo)) fun s' vs' F' hs' I'' hF' hk''=>hq s' vs' F' ?_ I'' (fun y hy=>hF' y ?_) hk''
   ·show(if y=p then some v else F y)=m y
    by_cases e:y=p
    ·rw[if_pos e,e,q6]
    ·rw[if_neg e];exact hF y ((List.mem_cons.mp hy).resolve_left e)
   ·obtain⟨h2,t2,rfl⟩:=hs';exact⟨h2,t2,rfl⟩
   ·rcases hy with hy | hy
    ·rcases List.mem_cons.mp hy with rfl | hy
     ·exact .inr List.mem_cons_self
     ·exact .inl hy
    ·exact .inr (List.mem_cons_of_mem _ hy)
end
end Mine
namespace Mine
open PySem Builtin Builtin.ObjectAttr
section
variable {prog:Program} {w:World} {A:Around} {E:Value→Shared→Prop} {h:Heap} {g:Array GenState} {d:Drawn} {t:Nat} {os:OsState} {a dx:Addr} {o:Obj} {vs:Array Value}
 {nm q:Str} {C N:Addr} {bs bm:List Value} {hdct:Bool} {sn:List Str} {sub:List Value} {ab:Bool} {col:Option Bool} {dd:Option Addr} {k0 k1 k2 k3 k5:Option Value} {newId:String} {mN m:Str→Option Value} {ns:List Str} {name:Str} {v:Value}
theorem Lx{tk:Tok}{Q:PySem.Fin→Shared→Prop}(hC:h.get? C=some (excClassObj nm q C N bs bm true sn sub ab col dd k0 k1 k2 k3 k5 newId))(hN:h.Ns N mN)(T:TailN h bmV ns bm)(hn0:name∈ns)(hn1:mN name=none)(hB:typeLookup (.type "ValueError") name=pure none)
  (hx:h.get? a=some o) (hc:o.cls=.ref C) (hd:o.data=.fields vs) (hdx:o.dict=some dx) (hns:h.Ns dx m) (hv:m name=some v) (hq:Q (.done (.ret v)) ⟨h,g,d,t,os⟩) :
  wpAny (model prog w) A (Builtin.«object.__getattribute__» ⟨[.ref a,.str name tk],[]⟩) Q E ⟨h,g,d,t,os⟩:=by
 unfold Builtin.«object.__getattribute__»
 repeat (any_goals (first | assumption | (with_reducible refine wpAny_loadPart_at hx ?_;rw[hc]) | with_reducible refine jZ hC hN T F.excBase_ValueError.mroIs hn0 hn1 hB ?_ | wp_step))
 rw[hd];show wpAny (model prog w) A (instanceDict a false) _ _ _;unfold instanceDict
 repeat (any_goals (first | assumption | (with_reducible refine wpAny_loadPart_at hx ?_;rw[hc]) | with_reducible refine wpAny_loadPart_at hC ?_ | wp_step))
 rw[hdx]
 repeat (any_goals (first | assumption | (with_reducible refine wpAny_nsGet hns ?_;rw[hv]) | wp_step))
theorem Ly{M:Model}{nameV:Value}{Q:Unit→Shared→Prop}(hC:h.get? C=some (excClassObj nm q C N bs bm true sn sub ab col dd k0 k1 k2 k3 k5 newId))(hbm:bm.contains (.type "BaseException")=true)
  (hx:h.get? a=some o) (hc:o.cls=.ref C) (hq:Q () ⟨h,g,d,t,os⟩):wpAny M A (checkBuiltinCall "BaseException.__getattribute__" ⟨[.ref a,nameV],[]⟩) Q E ⟨h,g,d,t,os⟩:=by
 have hk:builtinKind "BaseException.__getattribute__" = some .slot:=by decide +kernel
 have hsplit:splitId "BaseException.__getattribute__" = some ("BaseException", "__getattribute__"):=by decide +kernel
 have hcB:(Value.ref C::bm).contains (.type "BaseException")=true:=by rw[List.contains_cons,hbm,Bool.or_true]
 have ha:=F.args_bexc_ga (.ref a) nameV;simp only[checkBuiltinCall,hk,hsplit];refine wpAny_bind ?_;unfold isInstance
 repeat (first | (with_reducible refine wpAny_loadPart_at hx ?_;rw[hc]) | (with_reducible refine wpAny_isSubtype_exc hC ?_;rw[hcB]) | wp_step)
 exact hq
theorem Lz{expr:Bool}{Q:Value→Shared→Prop}(hC:h.get? C=some (excClassObj nm q C N bs bm true sn sub ab col dd k0 k1 k2 k3 k5 newId))(hN:h.Ns N mN)(T:TailN h bmV ns bm)(hbm:bm.contains (.type "BaseException")=true)
  (hg0:Str.ofString "__getattribute__" ∈ ns) (hg1:mN "__getattribute__" = none) (hh0:Str.ofString "__getattr__" ∈ ns) (hh1:mN "__getattr__" = none) (hn0:name∈ns) (hn1:mN name=none) (hB:typeLookup (.type "ValueError") name=pure none)
  (hx:h.get? a=some o) (hc:o.cls=.ref C) (hd:o.data=.fields vs) (hdx:o.dict=some dx) (hns:h.Ns dx m) (hv:m name=some v) (hv2:handedOut v=pure v) (hq:Q v ⟨h,g,d,t+1,os⟩) :
  wpAny (model prog w) A (getAttr (.ref a) name expr) Q E ⟨h,g,d,t,os⟩:=by
 have f3:=F.attrBase_ValueError.ga.bind (.ref a);have hx0:(expr&&onTheHeap (Value.builtin "BaseException.__getattribute__"))=false:=by cases expr<;>rfl
 have hx2:(Value.builtin "BaseException.__getattribute__" == Value.builtin "object.__getattribute__")=false:=by decide +kernel
 have hx1:(onTheHeap (Value.ref C)&&Value.builtin "BaseException.__getattribute__" == Value.builtin "object.__getattribute__")=false:=by rw[hx2];rfl
 unfold getAttr
 repeat (any_goals (first | assumption | (with_reducible refine wpAny_loadPart_at hx ?_;rw[hc]) | with_reducible refine jZ hC hN T F.excBase_ValueError.mroIs hg0 hg1 F.attrBase_ValueError.ga.lookup ?_ | with_reducible refine jZ hC hN T F.excBase_ValueError.mroIs hh0 hh1 F.attrBase_ValueError.noGetattr ?_ | wp_step))
 refine codeAny_call_builtin F.attrBase_ValueError.ga.plain F.entry_bexc_ga (Ly hC hbm hx hc (Lx hC hN T hn0 hn1 hB hx hc hd hdx hns hv ?_));show wpAny (model prog w) A (handedOut v) Q E _;rw[hv2];exact wpAny_pure hq
end
end Mine
namespace Mine
open PySem
section
variable {prog:Program} {w:World} {A:Around} {E:Value→Shared→Prop}
theorem L0{C N e t:Addr}{bm bs:List Value}{nm q:Str}{sn:List Str}{sub:List Value}{ab:Bool}{col:Option Bool}{dd:Option Addr}{k0 k1 k2 k3 k5:Option Value}{newId:String}{mN:Str→Option Value}{fI:Addr}{oI:Obj}{fd:FuncData}{self:Str}{ps:List Str}{h0:Heap}{s:Shared}{vals:List Value}{Q:Value→Shared→Prop}
  (hb:bm.contains (.type "object")=true) (hC:h0.get? C=some (excClassObj nm q C N bs bm true sn sub ab col dd k0 k1 k2 k3 k5 newId)) (hN:h0.Ns N mN) (T:TailN h0 bmV (Str.ofString "__init__" :: Str.ofString "__setattr__" :: ps) bm) (hn:∀ n∈Str.ofString "__setattr__" :: ps,mN n=none)
  (ho:h0.get? fI=some oI) (hfd:oI.data=.func fd) (hcd:h0.CodeRec fd.code fd.qualname) (I:InitF fd self ps) (hB:∀ p∈ps,typeLookup (.type "ValueError") p=pure none) (hl:h0.NoLimit) (hroom:A.depth < recursionLimit) (hv:vals.length=ps.length)
  (h01:∀ b o,h0.get? b=some o→s.heap.get? b=some o) (he0:h0.get? e=none) (he:s.heap.get? e=some { cls:=.ref C,data:=.fields #[.ref t,.none,.none,.none,.bool false,.none] })
  (hq:∀ s' dx,(∃ h tk,s'={ s with heap:=h,toks:=tk })→s'.heap.get? e=some { cls:=.ref C,dict:=dx,data:=.fields #[.ref t,.none,.none,.none,.bool false,.none] }→(∀ b o,b≠e→s.heap.get? b=some o→s'.heap.get? b=some o)→(ps=[]∨MadeF s s' dx ps vals)→Q .none s'):wpAny (model prog w) A (call (.ref fI) (.ref e::vals)) Q E s:=by
 obtain⟨as,kwd,dfl,hp,has⟩:=I.params;obtain⟨b,hbody,hst⟩:=I.body;have hlen:as.length=(Value.ref e::vals).length:=by
  have:=congrArg List.length has;simp at this;simp[hv,this]
 refine wpAny_call (codeAny_call_cells (binds:=(self::ps).zip (.ref e::vals)) hroom (h01 _ _ ho) hfd (hl.keeps h01) (hcd.keeps h01) hbody (has▸yU hp I.defaults hlen (has▸I.nodup)) I.closure (fun x hx=>.inl (I.loc x.1 (List.of_mem_zip hx).1).1) (fun s₁ hin=>?_) I.cor I.gen I.kind);have at0:∀ {i:Nat} {x:Str} {v:Value},(self::ps)[i]?=some x→(Value.ref e::vals)[i]?=some v→bindL (callEnvC fd s.heap.objs.size fI).kindOf ((self::ps).zip (.ref e::vals)) (fun _=>none) x=some v:=fun h1 h2 =>
  qS I.nodup h1 h2 (I.loc _ (List.mem_of_getElem? h1)).1
 have keep:=hin.toInCall.keep;have hLe:(callEnvC fd s.heap.objs.size fI).locals≠e:=fun x=>by
  have:=hin.toInCall.fresh;rw[x] at this;exact absurd (Heap.lt_size he) (Nat.not_lt.mpr this)
 refine Lw (tt:=t) (h1:=s₁.heap) (vs:=[]) F.store_ValueError hb I.kind hC hN T (fun b o eo=>keep b o (h01 b o eo)) he0 hin.toInCall.ns hLe (.tail _ (.head _)) (hn _ (.head _)) (at0 (i:=0) rfl rfl) (I.loc self (.head _)) hst (fun p hp=>?_) (by have:=I.few;simp;exact Dd this) ⟨none,keep _ _ he,.inl ⟨rfl,fun _=>rfl⟩⟩ (fun y hy=>bT hy) (fun b o _ eo=>eo) fun s' vs' F' hs' I' hF hk=>?_
 ·obtain⟨i,hi⟩:=List.mem_iff_getElem?.mp hp;have hlt:i < vals.length:=by rw[hv];exact(List.getElem?_eq_some_iff.mp hi).1
  exact⟨.tail _ (.tail _ hp),hn p (.tail _ hp),hB p hp,(I.loc p (.tail _ hp)).1,(I.loc p (.tail _ hp)).2,vals[i],at0 (i:=i+1) hi (List.getElem?_eq_getElem hlt)⟩
 ·obtain⟨h1,t1,rfl⟩:=hs';obtain⟨h2,t2,rfl⟩:=hin.toInCall.same;obtain⟨dx,hx,hdd⟩:=I';refine hq _ dx ⟨h1,t1,rfl⟩ hx (fun b o hb eo=>hk b o hb (keep b o eo)) ?_;have val:∀ (i:Nat) p v,ps[i]?=some p→vals[i]?=some v→F' p=some v:=fun i p v h1 h2=>(hF p (.inl (List.mem_of_getElem? h1))).trans (at0 (i:=i+1) h1 h2);rcases hdd with ⟨_,h0⟩ | ⟨d,rfl,hne,hg,hns,_⟩
  ·cases hps:ps with
   |nil=>exact .inl rfl
   |cons p r =>
    have hlt:0 < vals.length:=by rw[hv,hps];exact Nat.succ_pos _
    have:=val 0 p vals[0] (by rw[hps];rfl) (List.getElem?_eq_getElem hlt);rw[h0] at this;exact ns this
  ·refine .inr ⟨d,F',rfl,?_,hns.ns,val⟩;refine ocs (s.heap.get? d) id fun o ho=>?_;exact absurd ⟨hne,o,keep d o ho⟩ hg
inductive ClsI(h:Heap)(C:Addr)(bm:List Value)(ps:List Str):Prop where
 |mk (N nm q bs sn sub ab col dd k0 k1 k2 k3 k5 mN fI oI fd sf) (a:h.get? C=some (excClassObj nm q C N bs bm true sn sub ab col dd k0 k1 k2 k3 k5 "ValueError.__new__")) (b:h.Ns N mN) (c:mN "__init__" = some (.ref fI)) (d:∀ n∈Str.ofString "__setattr__" :: (ps++hid),mN n=none)
  (e:TailN h bmV (Str.ofString "__init__" :: Str.ofString "__setattr__" :: (ps++hid)) bm) (f:h.get? fI=some oI) (g:oI.cls=.type "function") (i:oI.data=.func fd) (j:h.CodeRec fd.code fd.qualname) (k:InitF fd sf ps) (l:∀ p∈ps,typeLookup (.type "ValueError") p=pure none):ClsI h C bm ps
inductive ClsP(h:Heap)(C:Addr)(bm:List Value):Prop where
 |mk (N nm q bs hdct sn sub ab col dd k0 k1 k2 k3 k5 mN) (a:h.get? C=some (excClassObj nm q C N bs bm hdct sn sub ab col dd k0 k1 k2 k3 k5 "ValueError.__new__")) (b:h.Ns N mN) (c:mN "__init__" = none) (d:OwnTail h bmV bm):ClsP h C bm
theorem OwnTail.has{h:Heap}{bm:List Value}(T:OwnTail h bmV bm){X:String}(hx:bmV.contains (.type X)=true):bm.contains (.type X)=true:=T.hasType hx
theorem ClsI.ok{base:Heap}{C:Addr}{bm:List Value}{ps:List Str}(hl:base.NoLimit)(x:ClsI base C bm ps):ClsOk prog w base C bm (some ps):=by
 obtain⟨N,nm,q,bs,sn,sub,ab,col,dd,k0,k1,k2,k3,k5,mN,fI,oI,fd,sf,hC,hN,hi,hn,T,ho,hfc,hfd,hcd,I,hB⟩:=x;have T':=T.tail (.head _);have s1:∀ n∈Str.ofString "__setattr__" :: ps,n∈Str.ofString "__setattr__" :: (ps++hid):=fun n h=>(List.mem_cons.mp h).elim (fun e=>e▸.head _) fun h=>.tail _ (List.mem_append_left _ h);have T2:=T.less (ns':=Str.ofString "__init__" :: Str.ofString "__setattr__" :: ps) fun n h=>(List.mem_cons.mp h).elim (fun e=>e▸.head _) fun h=>.tail _ (s1 n h);refine⟨⟨nm,q,N,bs,true,sn,sub,ab,col,dd,k0,k1,k2,k3,k5,_,hC⟩,OwnTail.has T' (by decide +kernel),OwnTail.has T' (by decide +kernel),fun A vals s E Q hd hb ha hq=>?_,fun ps' ep p hp A s e dx o vs m v E Q hb hx hc hd hdx hns hv hv2 hq=>by
  obtain rfl:=si ep;obtain⟨h,g,d,t,os⟩:=s;exact Lz (hb _ _ hC) (hN.keeps hb) (T.keeps hb) (OwnTail.has T' (by decide +kernel)) (.tail _ (.tail _ (List.mem_append_right _ (.head _)))) (hn _ (.tail _ (List.mem_append_right _ (.head _)))) (.tail _ (.tail _ (List.mem_append_right _ (.tail _ (.head _))))) (hn _ (.tail _ (List.mem_append_right _ (.tail _ (.head _))))) (.tail _ (.tail _ (List.mem_append_left _ hp))) (hn p (.tail _ (List.mem_append_left _ hp))) (hB p hp) hx hc hd hdx hns hv hv2 (hq _)⟩
 have ha:ps.length=vals.length:=ha;have hsz:vals.length≤sizeLine:=by
  have:=I.few;have hZ:sizeLine=16777216:=rfl;exact De ha this hZ
 obtain⟨h,g,d,t,os⟩:=s;refine Lq F.excBase_ValueError (T'.keeps hb) (hb _ _ hC) (hN.keeps hb) hi (hb _ _ ho) hfc hsz fun h' e m=>?_;obtain⟨tt,he,_,_⟩:=m.there;have hdp:(A.under (.builtin "type.__call__" ⟨.ref C::vals,[]⟩)).depth < recursionLimit:=hd;refine L0 (h0:=h) (OwnTail.has T' (by decide +kernel)) (hb _ _ hC) (hN.keeps hb) (T2.keeps hb) (fun n h=>hn n (s1 n h)) (hb _ _ ho) hfd (hcd.keeps hb) I hB (hl.keeps hb) hdp ha.symm m.keeps m.new he fun s' dx hs' hx hk hf=>⟨rfl,hq _ _ ?_⟩
 obtain⟨h2,t2,rfl⟩:=hs';refine⟨⟨h2,t2,rfl,fun b o eo=>hk b o (fun x=>by simp only[x,m.new] at eo;exact ns eo) (m.keeps b o eo)⟩,e,dx,tt,rfl,m.new,hx,fun ps' ep=>?_⟩;obtain rfl:=si ep;rcases hf with hf | ⟨d1,F',e1,n1,hn1,r1⟩
 ·exact .inl hf
 ·refine .inr ⟨d1,F',e1,?_,hn1,r1⟩;refine ocs (h.get? d1) id fun o ho=>?_;exact ns (n1.symm.trans (m.keeps d1 o ho))
theorem ClsP.ok{base:Heap}{C:Addr}{bm:List Value}(x:ClsP base C bm):ClsOk prog w base C bm none:=by
 obtain⟨N,nm,q,bs,hdct,sn,sub,ab,col,dd,k0,k1,k2,k3,k5,mN,hC,hN,hni,T⟩:=x;refine⟨⟨nm,q,N,bs,hdct,sn,sub,ab,col,dd,k0,k1,k2,k3,k5,_,hC⟩,OwnTail.has T (by decide +kernel),OwnTail.has T (by decide +kernel),fun A vals s E Q hd hb ha hq=>?_,fun ps' ep=>ns ep⟩;have ha:vals.length=1:=ha;obtain⟨h,g,d,t,os⟩:=s;refine wpAny_call_exc_subT F.excBase_ValueError (T.keeps hb) (hb _ _ hC) (hN.keeps hb) hni (fun h' e m=>?_) (by have hZ:sizeLine=16777216:=rfl;exact Df ha hZ);obtain⟨tt,he,_,_⟩:=m.there;exact hq _ _ ⟨⟨h',t,rfl,m.keeps⟩,e,none,tt,rfl,m.new,he,fun ps' ep=>ns ep⟩
end
end Mine
namespace Mine
open PySem PyProof.Rows.TI
section
variable {prog:Program} {w:World} {mg mb:Str→Option Value} {base:Heap} {l l₀:List Env} {env:Env}
noncomputable def cY(h:Heap)(l:List Env)(e T:Addr):Heap:=gone h (e::T::l.filterMap (·.frame))
theorem mY{h:Heap}{e T:Addr}:(cY h l e T).StaysIn h:=fun _ _ x=>(gone_some x).2
theorem qT{h:Heap}{e T:Addr}:(cY h l e T).get? e=none:=gone_none List.mem_cons_self
theorem qU{h:Heap}{e T:Addr}:(cY h l e T).get? T=none:=gone_none (List.mem_cons_of_mem _ List.mem_cons_self)
theorem mZ{h:Heap}{e T b:Addr}(f:frs l b):(cY h l e T).get? b=none:=gone_none (List.mem_cons_of_mem _ (List.mem_cons_of_mem _ f))
theorem qV{h:Heap}{e T b:Addr}{o:Obj}(h1:b≠e)(h2:b≠T)(h3:¬ frs l b)(x:h.get? b=some o):(cY h l e T).get? b=some o :=
 (gone_get fun m=>by
  rcases List.mem_cons.mp m with m | m
  ·exact h1 m
  ·rcases List.mem_cons.mp m with m | m
   ·exact h2 m
   ·exact h3 m).trans x
theorem m8{h B:Heap}:∀ {l:List Env},h.FunFrames base l→(∀ b,frs l b→B.get? b=none)→h.FunFrames B l
 := by
 intro l
 induction l with
 |nil=>exact fun _ _=>trivial
 |cons env r ih =>
  intro f k;obtain⟨hk,⟨L,o,hf,_,ho,hd⟩,hr⟩:=f;exact⟨hk,⟨L,o,hf,k L (by unfold frs;rw[List.filterMap_cons,hf];exact List.mem_cons_self),ho,hd⟩,ih hr fun b f=>k b (by unfold frs;rw[List.filterMap_cons,hf];exact List.mem_cons_of_mem _ f)⟩
theorem Rep.monoF{h h':Heap}{av:Addr→Prop}(hk:∀ b o,¬ av b→(∀ vs,o.data≠.fields vs)→h.get? b=some o→h'.get? b=some o){v:Value}{d:PyData}(r:Rep prog w h av v d):Rep prog w h' av v d:=by
 induction r with
 |none=>exact .none
 |bool b=>exact .bool b
 |int i t=>exact .int i t
 |str x t hx=>exact .str x t hx
 |list h1 h2 h3 h4 _ ih=>obtain⟨k,e⟩:=h2;exact .list h1 ⟨k,hk _ _ h1 nofun e⟩ h3 h4 ih
 |tuple h1 h2 h3 h4 _ ih=>obtain⟨k,e⟩:=h2;exact .tuple h1 ⟨k,hk _ _ h1 nofun e⟩ h3 h4 ih
 |dict h1 h2 h3 h4 h5 _ ih =>
  obtain⟨o,es,ep,e,x,hd,r⟩:=h2;exact .dict h1 ⟨o,es,ep,hk _ o h1 (fun vs q=>by rw[hd] at q;cases q) e,x,hd,r⟩ h3 h4 h5 ih
theorem eT.fly{h h':Heap}{av:Addr→Prop}{e T:Addr}{od:Option Addr}{fs:List (Str×PyData)}(f:eT prog w h av od fs)(st:(cY h l e T).StaysIn h')(fav:∀ b,frs l b→av b)
  (hE:∀ o,h.get? e=some o→∃ vs,o.data=.fields vs) (hT:∀ o,h.get? T=some o→∃ vs,o.data=.fields vs):eT prog w h' av od fs:=by
 have hk:∀ b o,¬ av b→(∀ vs,o.data≠.fields vs)→h.get? b=some o→h'.get? b=some o:=fun b o n hd e'=>st b o (qV (fun x=>by obtain⟨vs,q⟩:=hE o (x▸e');exact hd vs q) (fun x=>by obtain⟨vs,q⟩:=hT o (x▸e');exact hd vs q) (fun f=>n (fav b f)) e');rcases f with f | ⟨d,m,e1,n,hn,r⟩
 ·exact .inl f
 ·obtain⟨o,es,ep,ho,hd,hr⟩:=hn;refine .inr ⟨d,m,e1,n,⟨o,es,ep,hk d o n (fun vs q=>by rw[hd] at q;cases q) ho,hd,hr⟩,fun p x hp=>?_⟩;obtain⟨v,g1,g2⟩:=r p x hp;exact⟨v,g1,g2.monoF hk⟩
theorem L3{s s':Shared}{h':Heap}{e T C:Addr}{a0 fl:Value}(k:K l s s')(ff:s'.heap.FunFrames base l)(se:s.heap.get? e=none)(sT:s.heap.get? T=none)
  (st:(cY s'.heap l e T).StaysIn h') (up:s'.heap.UpToSlots h') (tr:h'.TracedAtW (cY s'.heap l e T) e (.ref C) a0 fl) :
  K l s { s' with heap:=h' }∧Tb s h' e fl∧∃ oe vs,h'.get? e=some oe∧oe.cls=.ref C∧oe.data=.fields vs:=by
 have ne:∀ {b:Addr} {o:Obj},s.heap.get? b=some o→b≠e∧b≠T:=fun x=>⟨fun y=>(by rw[y,se] at x;exact ns x),fun y=>(by rw[y,sT] at x;exact ns x)⟩
 have at1:∀ b o,¬ frs l b→s.heap.get? b=some o→h'.get? b=some o:=fun b o n x=>st b o (qV (ne x).1 (ne x).2 n (k.at n x));have at2:∀ b o,frs l b→s.heap.get? b=some o→∃ sl,h'.get? b=some { o with slots:=sl }∧∀ vs,o.data≠.fields vs:=fun b o f x=>by
  obtain⟨sl,x'⟩:=k.up x;obtain⟨_,o',e1,e2⟩:=ff.mem f;rw[x'] at e1;obtain rfl:=si e1;obtain⟨sl',x''⟩:=up b _ x' e2;exact⟨sl',x'',e2⟩
 obtain⟨oe,vs,T',oT,ts,g1,⟨g2,g3⟩,g4,g5,g6,g7,g8,g9,g10⟩:=tr;refine⟨?_,⟨oe,vs,T',oT,ts,g1,g4,g5,?_,g7,g8,g9,g10⟩,oe,vs,g1,g2,g4⟩
 ·obtain⟨h,t,rfl,_,_⟩:=k;refine⟨h',t,rfl,at1,fun b o x=>?_⟩
  by_cases f:frs l b
  ·obtain⟨sl,h,_⟩:=at2 b o f x;exact⟨sl,h⟩
  ·exact⟨o.slots,at1 b o f x⟩
 ·refine ocs (s.heap.get? T') (fun x=>?_) fun o x=>?_
  ·try rewrite[x]
   rfl
  ·try rewrite[x]
   by_cases f:frs l T'
   ·obtain⟨sl,y,z⟩:=at2 T' o f x;rw[g8] at y;obtain rfl:=si y;exact absurd g9 (z ts)
   ·have:=at1 T' o f x;rw[qV (ne x).1 (ne x).2 f (k.at f x)] at g6;exact sn g6
theorem Tb.tr{s:Shared}{h B:Heap}{e C:Addr}{fl:Value}{oe:Obj}(x:Tb s h e fl)(he:h.get? e=some oe)(hc:oe.cls=.ref C)(hB:∀ T,(∃ vs,oe.data=.fields vs∧vs[1]?=some (.ref T))→B.get? T=none):∃ a0,h.TracedAtW B e (.ref C) a0 fl:=by
 obtain⟨oe',vs,T,oT,ts,g1,g2,g3,g4,g5,g6,g7,g8⟩:=x;rw[he] at g1;obtain rfl:=si g1;have hs:=(Array.getElem?_eq_some_iff.mp g3).1;exact⟨vs[0],oe,vs,T,oT,ts,he,⟨hc,Array.getElem?_eq_getElem (by omega)⟩,g2,g3,hB T ⟨vs,g2,g3⟩,g5,g6,g7,g8⟩
theorem Tb.place{s:Shared}{h:Heap}{e:Addr}{fl:Value}{oe:Obj}(x:Tb s h e fl)(he:h.get? e=some oe):∃ T,s.heap.get? T=none∧∀ T',(∃ vs,oe.data=.fields vs∧vs[1]?=some (.ref T'))→T'=T:=by
 obtain⟨oe',vs,T,oT,ts,g1,g2,g3,g4,_⟩:=x;rw[he] at g1;obtain rfl:=si g1;refine⟨T,g4,fun T' ⟨vs',h1,h2⟩=>?_⟩;rw[g2] at h1;cases h1;rw[g3] at h2;cases h2;rfl
end
end Mine
namespace Mine
open PySem
inductive Calm{α:Type}:Sem α→Prop where
 |pure (a:α):Calm (.pure a)
 |raise (e:Value):Calm (.raise e)
 |unsup (w:String):Calm (.unsupported w)
 |reg (a:Addr) (k:Unit→Sem α):Calm (.register a k)
 |load {a:Addr} {p:Option Value} {k:Obj→Sem α} (h:∀ o,Calm (k o)):Calm (.load a p k)
 |upd {a:Addr} {p:Option Value} {f:Obj→Obj} {k:Unit→Sem α} (hf:∀ o:Obj,(f o).dict=o.dict∧(f o).isFreed=o.isFreed) (h:Calm (k ())):Calm (.update a p f k)
 |alloc {o:Obj} {k:Addr→Sem α} (h:∀ a,Calm (k a)):Calm (.alloc o k)
 |stack {k:List (Code×Pos)→Sem α} (h:∀ l,Calm (k l)):Calm (.stack k)
noncomputable def DK(s s':Shared):Prop:=∀ b o,s.heap.get? b=some o→∃ o',s'.heap.get? b=some o'∧o'.dict=o.dict
theorem DK.rf(s:Shared):DK s s:=fun _ o e=>⟨o,e,rfl⟩
theorem DK.tr{s s' s'':Shared}(x:DK s s')(y:DK s' s''):DK s s'':=fun b o e=>by
 obtain⟨o1,e1,d1⟩:=x b o e;obtain⟨o2,e2,d2⟩:=y b o1 e1;exact⟨o2,e2,d2.trans d1⟩
theorem Calm.bind{α β:Type}{t:Sem α}{f:α→Sem β}(c:Calm t)(h:∀ a,Calm (f a)):Calm (t.bind f):=by
 induction c with
 |pure a=>exact h a
 |raise e=>exact .raise e
 |unsup w=>exact .unsup w
 |reg a k=>exact .reg a _
 |load _ ih=>exact .load fun o=>ih o
 |upd hf _ ih=>exact .upd hf ih
 |alloc _ ih=>exact .alloc fun a=>ih a
 |stack _ ih=>exact .stack fun l=>ih l
theorem DK.push(s:Shared)(o:Obj):DK s { s with heap:=s.heap.push o }:=fun _ x e=>⟨x,Heap.get?_push_of_some o e,rfl⟩
theorem DK.upd(s:Shared){a:Addr}{f:Obj→Obj}(hf:∀ o:Obj,(f o).dict=o.dict∧(f o).isFreed=o.isFreed):DK s { s with heap:=s.heap.update a f }:=fun b x e=>by
 by_cases h:a=b
 ·subst h;exact⟨f x,Heap.get?_update_self f e ((hf x).2.trans (Heap.get?_some_iff.mp e).2),(hf x).1⟩
 ·exact⟨x,(Heap.get?_update_other s.heap f h).trans e,rfl⟩
theorem Calm.keeps{α:Type}{M:Model}{Γ:PySem.Ctx}{t:Sem α}(c:Calm t):∀ {Q:α→Pos→Shared→Prop} {E:Value→Pos→Shared→Prop} {p:Pos} {s s0:Shared},DK s0 s→Sem.wp M Γ t Q E p s→Sem.wp M Γ t (fun a p s'=>Q a p s'∧DK s0 s') (fun e p s'=>E e p s'∧DK s0 s') p s:=by
 induction c with
 |pure a=>intro Q E p s s0 d h;exact⟨h,d⟩
 |raise e=>intro Q E p s s0 d h;exact⟨h,d⟩
 |unsup w=>intro Q E p s s0 d h;exact h.elim
 |reg a k=>intro Q E p s s0 d h;exact h.elim
 |load _ ih=>intro Q E p s s0 d h;obtain⟨o,e,h⟩:=h;exact⟨o,e,ih o d h⟩
 |upd hf _ ih=>intro Q E p s s0 d h;exact⟨h.1,ih (d.tr (DK.upd s hf)) h.2⟩
 |alloc _ ih=>intro Q E p s s0 d h;exact ih _ (d.tr (DK.push s _)) h
 |stack _ ih=>intro Q E p s s0 d h;exact ih _ d h
theorem Calm.any{α:Type}{M:Model}{A:Around}{t:Sem α}(c:Calm t){Q:α→Shared→Prop}{E:Value→Shared→Prop}{s:Shared}(h:wpAny M A t Q E s):wpAny M A t (fun a s'=>Q a s'∧DK s s') (fun e s'=>E e s'∧DK s s') s :=
 fun Γ p hΓ=>c.keeps (DK.rf s) (h Γ p hΓ)
theorem eX{α:Type}{c:Prop}[Decidable c]{a b:Sem α}(h1:Calm a)(h2:Calm b):Calm (if c then a else b):=by
 by_cases h:c
 ·rw[if_pos h];exact h1
 ·rw[if_neg h];exact h2
theorem m9(v:Value)(i:Nat):Calm (field v i):=by
 refine Calm.bind ?_ fun vs=>?_
 ·cases v with
  |ref a =>
   refine .load fun o=>?_;show Calm (match o.data with | .fields vs=>pure vs | _=>unsupported "internal:no-fields");cases o.data with
   |fields vs=>exact .pure _
   |_=>exact .unsup _
  |_=>exact .unsup _
 ·cases vs[i]? with
  |none=>exact .unsup _
  |some x=>exact .pure _
theorem L4(f:Array Value→Array Value)(o:Obj):(Obj.mapFields f o).dict=o.dict∧(Obj.mapFields f o).isFreed=o.isFreed:=by
 obtain⟨c,d,dt,sl⟩:=o;cases dt<;>exact⟨rfl,rfl⟩
theorem yW(a:Addr){f:Obj→Obj}(hf:∀ o:Obj,(f o).dict=o.dict∧(f o).isFreed=o.isFreed):Calm (update a f):=.upd hf (.pure _)
theorem qW(v:Value)(i:Nat)(x:Value):Calm (setField v i x):=by
 cases v with
 |ref a =>
  refine .load fun o=>?_;show Calm (match o.data with | .fields vs=>if i < vs.size then update a (Obj.mapFields (·.setIfInBounds i x)) else unsupported "internal:no-such-field" | _=>unsupported "internal:write-to-non-record");cases o.data with
  |fields vs=>exact eX (yW a (L4 _)) (.unsup _)
  |_=>exact .unsup _
 |_=>exact .unsup _
theorem qX(v:Value)(f:Option Addr):Calm (setFlight v f) :=
 Calm.bind (m9 v 1) fun _=>eX (qW ..) (.pure _)
theorem L5(ty:String)(vs:List Value):Calm (newFields ty vs):=by
 unfold newFields newObj;exact eX (.unsup _) (.alloc fun _=>.pure _)
theorem L6(env:Env)(outer:List Env):Calm (behindIsImport env outer) :=
 eX (.pure _) (eX (.pure _) (Calm.bind (m9 _ _) fun _=>.pure _))
theorem L7(env:Env)(b:Bool)(outer:List Env):Calm (keptBack env b outer):=by
 cases outer with
 |nil=>exact eX (.pure _) (Calm.bind (Calm.bind (.stack fun _=>.pure _) fun _=>.pure _) fun _=>.pure _)
 |cons=>exact .pure _
theorem L8(l:List Env):Calm (readyFrames l):=by
 induction l with
 |nil=>exact .pure _
 |cons env outer ih =>
  unfold readyFrames;cases env.frame with
  |none=>exact .unsup _
  |some f =>
   refine .load fun o=>eX (.pure _) (Calm.bind (L6 ..) fun b=>Calm.bind (L7 ..) fun v=>Calm.bind (yW f fun o=>⟨rfl,by obtain⟨c,d,dt,sl⟩:=o;cases dt<;>rfl⟩) fun _=>ih)
theorem L9(env:Env):Calm (frameOf env):=by
 refine Calm.bind (Calm.bind (.stack fun _=>.pure _) fun l=>.pure _) fun l=>Calm.bind ?_ fun o=>?_
 ·cases l.dropWhile (·.frame != env.frame) with
  |nil=>exact .pure _
  |cons e r=>exact Calm.bind (L8 _) fun _=>.pure _
 ·cases o with
  |none=>exact .unsup _
  |some f=>exact .pure _
theorem Ma(f:Addr)(b:Bool):Calm (entryPlaceOf f b):=by
 refine .stack fun acts=>?_;show Calm (match acts.find? fun (c,_)=>c.env?.bind (·.frame)==some f with | some (_,pos)=>_ | none=>_);cases acts.find? fun (c,_)=>c.env?.bind (·.frame)==some f with
 |none=>exact .pure _
 |some x=>exact .pure _
theorem yX(e:Value)(env:Env):Calm (noteFrame e env):=by
 have last:∀ (f:Addr) (head:Value),Calm (do PySem.setField e 1 (← EntryCells.newEntry head (← frameOf env) .none (rawInt f) .none (← entryPlaceOf f (head != .none)))):=fun f head =>
  Calm.bind (L9 env) fun _=>Calm.bind (Ma ..) fun _=>Calm.bind (L5 ..) fun _=>qW ..
 unfold noteFrame;cases env.frame with
 |none=>exact .unsup _
 |some f =>
  refine Calm.bind (m9 e 1) fun head=>eX (Calm.bind (m9 head 3) fun x=>eX (.pure _) (Calm.bind (qW ..) fun _=>last f head)) (last f head)
theorem Mb(env:Env)(e:Value):Calm (leaving env e):=Calm.bind (yX e env) fun _=>qX ..
end Mine
namespace Mine
open PySem PyProof.Rows.TI
section
variable {prog:Program} {w:World} {mg mb:Str→Option Value} {base:Heap} {n:Nat} {hd:Bool} {l₀:List Env} {env:Env} {sc:Scope} {av₀:Addr→Prop} {s₀:Shared} {σ:aA} {av:Addr→Prop} {s:Shared}
theorem K.wide{s s':Shared}(k:K l₀ s s'):K (env::l₀) s s':=by
 obtain⟨h,t,rfl,k,u⟩:=k;refine⟨h,t,rfl,fun b o n e=>k b o (fun f=>n ?_) e,u⟩;unfold frs at f ⊢;rw[List.filterMap_cons];cases env.frame with
 |none=>exact f
 |some L=>exact List.mem_cons_of_mem _ f
inductive Stn(s₀:Shared)(l:List Env)(e C:Addr)(s' s'':Shared):Prop where
 |mk (T:Addr) (h':Heap) (a0:Value) (sT:s₀.heap.get? T=none) (hT:∀ o,s'.heap.get? T=some o→∃ vs,o.data=.fields vs) (es:s''={ s' with heap:=h' }) (st:(cY s'.heap l e T).StaysIn h') (up:s'.heap.UpToSlots h') (tr:h'.TracedW (cY s'.heap l e T) e (.ref C) a0):Stn s₀ l e C s' s''
theorem Tb.placeF{s:Shared}{h:Heap}{e:Addr}{fl:Value}{oe:Obj}(x:Tb s h e fl)(he:h.get? e=some oe):∃ T,s.heap.get? T=none∧(∀ T',(∃ vs,oe.data=.fields vs∧vs[1]?=some (.ref T'))→T'=T)∧∀ o,h.get? T=some o→∃ vs,o.data=.fields vs:=by
 obtain⟨oe',vs,T,oT,ts,g1,g2,g3,g4,g5,g6,g7,g8⟩:=x;rw[he] at g1;obtain rfl:=si g1;refine⟨T,g4,fun T' h=>?_,fun o ho=>?_⟩
 ·obtain⟨vs',h1,h2⟩:=h;rw[g2] at h1;obtain rfl:=Data.fields.inj h1;rw[g3] at h2;exact(Value.ref.inj (si h2)).symm
 ·rw[g6] at ho;obtain rfl:=si ho;exact⟨ts,g7⟩
theorem Stn.on{s₀ s' s'':Shared}{l:List Env}{av:Addr→Prop}{e C:Addr}{x:X}{oe:Obj}{vs:Array Value}(S:Stn s₀ l e C s' s'')(dk:DK s' s'')(k:K l s₀ s')(ff:s'.heap.FunFrames base l)(se:s₀.heap.get? e=none)(fav:∀ b,frs l b→av b)
  (na:¬ av e) (he:s'.heap.get? e=some oe) (hd:oe.data=.fields vs) (hm:mg x.cls=some (.ref C)) (hx:eT prog w s'.heap av oe.dict x.fields):K l s₀ s''∧Tb s₀ s''.heap e .none∧ExAt prog w mg s''.heap av e x:=by
 obtain⟨T,h',a0,sT,hT,rfl,st,up,tr⟩:=S;obtain⟨k',t',oe',vs',e1,e2,e3⟩:=L3 k ff se sT st up tr.at;obtain⟨o2,f1,f2⟩:=dk e oe he;replace f1:h'.get? e=some o2:=f1;rw[e1] at f1;obtain rfl:=si f1;exact⟨k',t',na,oe',vs',C,e1,e3,e2,hm,f2.symm▸hx.fly st fav (fun o ho=>by rw[he] at ho;obtain rfl:=si ho;exact⟨vs,hd⟩) hT⟩
theorem Mc{A:Around}{x:X}{v:Value}{s':Shared}{Q:Unit→Shared→Prop}{E:Value→Shared→Prop}(hfr:A.frames=some (env::l₀))(hf:env.frame=some env.locals)(hL:s₀.heap.get? env.locals=none)(u:Upx prog w mg base l₀ env s₀ av₀ x v s')
  (hq:∀ s'',Fly prog w mg l₀ s₀ av₀ x v s''→Q () s''):wpAny (model prog w) A (leaving env v) Q E s':=by
 obtain⟨k,ff,st,e,rfl,se,⟨na,oe,vs,C,he,hd,hc,hm,hx⟩,ht⟩:=u;have key:wpAny (model prog w) A (leaving env (.ref e)) (fun _ s''=>Stn s₀ (env::l₀) e C s' s'') E s':=by
  rcases ht with ht | ⟨oe',vs',e1,e2,e3⟩
  ·obtain⟨T,sT,hT,hTf⟩:=ht.placeF he;obtain⟨a0,tr⟩:=ht.tr (B:=cY s'.heap (env::l₀) e T) he hc fun T' h=>hT T' h▸qU;exact wpAny_leaves_onW hfr hf ⟨mY,qT,m8 ff fun b f=>mZ f,tr⟩ fun h' fl up=>⟨T,h',a0,sT,hTf,rfl,fl.1,up,fl.2.2.2⟩
  ·rw[he] at e1;obtain rfl:=si e1;have hs:=(Array.getElem?_eq_some_iff.mp e3).1;exact wpAny_leaving_firstW (base:=cY s'.heap (env::l₀) e e) (a0:=vs'[0]) hfr (m8 ff fun b f=>mZ f) hf he mY qT e2 e3 (Array.getElem?_eq_getElem (by exact Dg hs)) fun h' h=>⟨e,h',_,se,fun o ho=>by rw[he] at ho;obtain rfl:=si ho;exact⟨_,hd⟩,rfl,h.1,h.2.2.2,hc▸h.2.2.1⟩
 refine wpAny_mono ((Mb env (.ref e)).any key) (fun _ s'' y=>?_) fun _ _ y=>y.1;obtain⟨k',t',xa⟩:=y.1.on y.2 k.wide ff se (fun b f=>.inr f) na he hd hm hx;exact hq _ ⟨K.drop hf hL (K.rf l₀ s₀) k',e,rfl,se,xa.mono (fun _ _ _ e=>e) fun b _ _ h=>.inl h,t'⟩
theorem Md{A:Around}{x:X}{v:Value}{s':Shared}{Q:Unit→Shared→Prop}{E:Value→Shared→Prop}(hfr:A.frames=some (env::l₀))(hf:env.frame=some env.locals)(G:Gnd prog w mg mb base (env::l₀) av s)(u:Fly prog w mg (env::l₀) s av x v s')
  (hq:∀ s'',Fly prog w mg (env::l₀) s av x v s''→Q () s''):wpAny (model prog w) A (noteFrame v env) (fun _ s₂=>wpAny (model prog w) A (setFlight v none) Q E s₂) E s':=by
 obtain⟨k,e,rfl,se,⟨na,oe,vs,C,he,hd,hc,hm,hx⟩,ht⟩:=u;have ff:=(G.k k).ff;obtain⟨T,sT,hT,hTf⟩:=ht.placeF he;obtain⟨a0,tr⟩:=ht.tr (B:=cY s'.heap (env::l₀) e T) he hc fun T' h=>hT T' h▸qU;have key:wpAny (model prog w) A (noteFrame (.ref e) env) (fun _ s₂=>wpAny (model prog w) A (setFlight (.ref e) none) (fun _ s₃=>Stn s (env::l₀) e C s' s₃) (fun _ _=>False) s₂) (fun _ _=>False) s':=by
  refine wpAny_looks_onW hfr hf ⟨mY,qT,m8 ff fun b f=>mZ f,tr⟩ fun h' hh up=>?_;exact wpAny_landsW (s:={ s' with heap:=h' }) hh fun h'' fl up'=>⟨T,h'',a0,sT,hTf,rfl,fl.1,up.trans up',fl.2.2.2⟩
 refine wpAny_mono ((yX (.ref e) env).any key) (fun _ s₂ y=>?_) fun _ _ y=>y.1.elim;refine wpAny_mono ((qX (.ref e) none).any y.1) (fun _ s₃ z=>?_) fun _ _ z=>z.1.elim;obtain⟨k',t',xa⟩:=z.1.on (y.2.tr z.2) k ff se G.fav na he hd hm hx;exact hq _ ⟨k',e,rfl,se,xa,t'⟩
theorem Me{A:Around}{x:X}{v:Value}{s':Shared}{Q:Unit→Shared→Prop}{E:Value→Shared→Prop}(G:Gnd prog w mg mb base (env::l₀) av s)(u:Fly prog w mg (env::l₀) s av x v s')
  (hq:∀ s'',Fly prog w mg (env::l₀) s av x v s''→Q () s''):wpAny (model prog w) A (setFlight v none) Q E s':=by
 obtain⟨k,e,rfl,se,⟨na,oe,vs,C,he,hd,hc,hm,hx⟩,ht⟩:=u;have ff:=(G.k k).ff;obtain⟨T,sT,hT,hTf⟩:=ht.placeF he;obtain⟨a0,tr⟩:=ht.tr (B:=cY s'.heap (env::l₀) e T) he hc fun T' h=>hT T' h▸qU;have key:wpAny (model prog w) A (setFlight (.ref e) none) (fun _ s₃=>Stn s (env::l₀) e C s' s₃) (fun _ _=>False) s' :=
  wpAny_setFlight_noneW (mY (l:=env::l₀) (e:=e) (T:=T)) (m8 ff fun b f=>mZ f) tr fun h' h1 h2 h3 h4=>⟨T,h',a0,sT,hTf,rfl,h1,fun b o e hn=>⟨o.slots,h4 b o e hn⟩,h3⟩
 refine wpAny_mono ((qX (.ref e) none).any key) (fun _ s₃ z=>?_) fun _ _ z=>z.1.elim;obtain⟨k',t',xa⟩:=z.1.on z.2 k ff se G.fav na he hd hm hx;exact hq _ ⟨k',e,rfl,se,xa,t'⟩
theorem Mf{ev:EV}{C:Ctx}(hK:KSound prog w mg mb base n C)(hh:C.hd=hd)(hbad:∀ σ e,bad e=true→ev σ e=.no)(h:∀ σ e,aE prog w mg mb base n hd (env::l₀) sc σ e (ev σ e)){F:Nat}{e:Expr}{pos:Pos} :
  aQ prog w mg mb base n hd l₀ env sc s₀ σ (exec (.Raise (some e) none pos) env) fun _ _=>lZ ev F C sc σ e:=by
 intro av₀ A s av hA X kn kr fin Q E hf hne hp hn hr he;replace hf:lZ ev F C sc σ e=fin:=hf;unfold lZ at hf;refine ocs (gZ e) (fun hc=>?_) fun c hc=>?_
 ·try rewrite[hc]
  rw[hc] at hf;exact absurd hf.symm hne
 ·try rewrite[hc]
  obtain⟨c,as⟩:=c;rw[hc] at hf;obtain⟨p,q,rfl⟩:=wA hc;obtain⟨⟨c1,c2,c3⟩,hf⟩:=iH hf hne;have hini:C.init c=(bE c prog.main.body).map (·.2):=by rw[hK.init]
  rw[hini] at hf;refine ocs (bE c prog.main.body) (fun hcl=>?_) fun pc hcl=>?_
  ·try rewrite[hcl]
   rw[hcl] at hf;exact absurd hf.symm hne
  ·try rewrite[hcl]
   rw[hcl] at hf;obtain⟨av1,Y,hsub⟩:=X.clear (as.flatMap (esc F));obtain⟨Ca,bm,g1,g2,_⟩:=Y.inv.gnd.glo.cls c pc hcl;obtain⟨nm,qn,N,bs,hdct,sn,sub,ab,col,dd,k0,k1,k2,k3,k5,newId,hC⟩:=g2.obj;have hf:rb (evs (ev (aA.clear σ (as.flatMap (esc F)))) as) (fun vs=>match pc.2 with | some ps=>if ps.length=vs.length then .exc ⟨c,ps.zip (bJ vs)⟩ else .no | none=>if vs.length=1 then .exc ⟨c,[]⟩ else .no)=fin:=by
    rw[← hf];obtain⟨b0,ini⟩:=pc;cases ini<;>rfl
   refine Lp (C:=Ca) (bm:=bm) g2.exc (hA.handled (hh▸c3)) c2 (mH Y.inv c1 g1 ⟨rfl,gC (hbad _) hA (fun e _=>h _ e) Y.inv ⟨hf,hne⟩ (fun vs s₂ us k2' r1 r2 e2=>⟨(Y.inv.gnd.k k2').stay _ _ hC,?_⟩) fun x v s' e f=>he x v s' e (Y.up f)⟩);have hlen:vs.length=us.length:=by rw[r1];exact List.length_map _
   have:wB pc.2 vs.length∧fin=.exc ⟨c,match pc.2 with | some ps=>ps.zip (bJ us) | none=>[]⟩:=by
    revert e2
    cases pc.2 with
    |none=>exact fun e2=>by obtain⟨a,b⟩:=iH e2 hne;exact⟨hlen.trans a,b.symm⟩
    |some ps=>exact fun e2=>by obtain⟨a,b⟩:=iH e2 hne;exact⟨a.trans hlen.symm,b.symm⟩
   obtain⟨ha,hfin⟩:=this;have Y2:=Y.k k2';refine g2.make A vs s₂ E _ (by have:=hA.depth;exact Dh this) Y2.inv.gnd.stay ha fun v s₃ m=>?_;obtain⟨k3',e,dx,t,rfl,en,et,mf⟩:=m;have nn:∀ {b:Addr},s₂.heap.get? b=none→¬ (av₀ b∨frs (env::l₀) b):=fun h x=>x.elim (Y2.newNot h).2.2.1 (Y2.newNot h).2.2.2.2;have flds:eT prog w s₃.heap (fun b=>av₀ b∨frs (env::l₀) b) dx (match pc.2 with | some ps=>ps.zip (bJ us) | none=>[]):=by
    revert mf
    cases pc.2 with
    |none=>exact fun _=>.inl rfl
    |some ps =>
     intro mf;rcases mf ps rfl with rfl | ⟨d,m,e1,n1,hn1,r⟩
     ·exact .inl rfl
     ·refine .inr ⟨d,m,e1,nn n1,hn1,fun p x hp=>?_⟩;obtain⟨i,hi⟩:=List.mem_iff_getElem?.mp hp;obtain⟨h1,h2⟩:=List.getElem?_zip_eq_some.mp hi;have hlt:i < vs.length:=by rw[r1];exact(List.getElem?_eq_some_iff.mp h2).1
      exact⟨vs[i],r i p vs[i] h1 (List.getElem?_eq_getElem hlt),(Rep.k (l:=env::l₀) Y.inv.gnd.fav (K.of k3') (r2 i vs[i] x (List.getElem?_eq_getElem hlt) h2)).mono (fun _ _ _ e=>e) fun b _ _ h=>h.elim (Y.bas b) (Y.inv.gnd.fav b)⟩
   have Y3:=Y2.k (K.of k3');exact⟨e,dx,t,rfl,Y3.inv.gnd.stay _ _ hC,et,he _ _ _ hfin ⟨Y3.k0,Y3.inv.gnd.ff,Y3.inv.gnd.stay,e,rfl,(Y2.newNot en).2.2.2.1,⟨nn en,_,_,Ca,et,rfl,rfl,g1,flds⟩,.inr ⟨_,_,et,rfl,rfl⟩⟩⟩
end
end Mine
namespace Mine
open PySem
section
variable {M:Model} {A:Around} {E:Value→Shared→Prop}
variable {nm q nm' q':Str} {C N D N':Addr} {bs bm bs' bm':List Value} {hdct hdct':Bool} {sn sn':List Str} {sub sub':List Value} {ab ab':Bool} {col col':Option Bool} {dd dd':Option Addr} {k0 k1 k2 k3 k5 k0' k1' k2' k3' k5':Option Value} {newId newId':String}
theorem Mg{h:Heap}{g:Array GenState}{d:Drawn}{t:Nat}{os:OsState}{e:Addr}{oe:Obj}{Q:Bool→Shared→Prop}
  (hC:h.get? C=some (excClassObj nm q C N bs bm hdct sn sub ab col dd k0 k1 k2 k3 k5 newId)) (hD:h.get? D=some (excClassObj nm' q' D N' bs' bm' hdct' sn' sub' ab' col' dd' k0' k1' k2' k3' k5' newId')) (he:h.get? e=some oe) (hcls:oe.cls=.ref C) (hbase:bm'.contains (.type "BaseException")=true)
  (hcD:(Value.ref C::bm).contains (.ref D)=true) (hq:Q true ⟨h,g,d,t,os⟩):wpAny M A (excMatches (.ref e) (.ref D)) Q E ⟨h,g,d,t,os⟩:=by
 have hcB:(Value.ref D::bm').contains (.type "BaseException")=true:=by rw[List.contains_cons,hbase,Bool.or_true]
 have f:=tc_notTuple;unfold excMatches
 repeat (first | (with_reducible refine wpAny_loadPart_at he ?_;rw[hcls]) | with_reducible refine wpAny_loadPart_at hD ?_ | (with_reducible refine wpAny_isSubtype_exc hD ?_;rw[hcB]) | (with_reducible refine wpAny_isSubtype_exc hC ?_;rw[hcD]) | wp_step)
 exact hq
theorem Mh{base:Heap}{s:Shared}{C D e:Addr}{bm bm':List Value}{oe:Obj}{Q:Bool→Shared→Prop}(c2:ClsObj base C bm)(d2:ClsObj base D bm')(st:∀ a o,base.get? a=some o→s.heap.get? a=some o)
  (he:s.heap.get? e=some oe) (hcls:oe.cls=.ref C) (hbase:bm'.contains (.type "BaseException")=true) (hcD:(Value.ref C::bm).contains (.ref D)=true) (hq:Q true s):wpAny M A (excMatches (.ref e) (.ref D)) Q E s:=by
 obtain⟨_,_,_,_,_,_,_,_,_,_,_,_,_,_,_,_,hC⟩:=c2;obtain⟨_,_,_,_,_,_,_,_,_,_,_,_,_,_,_,_,hD⟩:=d2;exact Mg (st _ _ hC) (st _ _ hD) he hcls hbase hcD hq
end
section
variable {prog:Program} {w:World} {mg mb:Str→Option Value} {base:Heap} {n:Nat} {hd:Bool} {l₀:List Env} {env:Env} {sc:Scope} {av₀:Addr→Prop} {s₀:Shared} {σ:aA} {av:Addr→Prop} {s:Shared}
theorem Room.mark{l:List Env}{A:Around}(h:Room n hd l A)(e:Option Value):Room n true l (A.mark e):=⟨h.depth,h.units,nofun,h.guards,h.frames⟩
theorem yY{b:List Stmt}{e:Expr}(h:fO b=some e):∃ pos,b=[.Return (some e) pos]:=by
 cases b with
 |nil=>exact ns h
 |cons s r =>
  cases r with
  |cons=>exact ns h
  |nil =>
   cases s with
   |Return o pos=>cases o with
    |none=>exact ns h
    |some e'=>obtain rfl:=si h;exact⟨pos,rfl⟩
   |_=>exact ns h
theorem Mi{hs:List ExceptHandler}{c:Str×Option Str×Expr}(h:l0 hs=some c):∃ p pos pos2,hs=[.ExceptHandler (some (.Name c.1 p)) c.2.1 [.Return (some c.2.2) pos2] pos]:=by
 cases hs with
 |nil=>exact ns h
 |cons hh r =>
  cases r with
  |cons=>exact ns h
  |nil =>
   obtain⟨t,x,b,pos⟩:=hh;cases t with
   |none=>exact ns h
   |some t =>
    replace h:(match bB t with | some c=>(match fO b with | some e=>some (c,x,e) | none=>none) | none=>none)=some c:=h;refine ocs (bB t) (fun hn=>?_) fun y hn=>?_
    ·try rewrite[hn]
     rw[hn] at h;exact ns h
    ·try rewrite[hn]
     rw[hn] at h;replace h:(match fO b with | some e=>some (y,x,e) | none=>none)=some c:=h;refine ocs (fO b) (fun hr=>?_) fun e hr=>?_
     ·try rewrite[hr]
      rw[hr] at h;exact ns h
     ·try rewrite[hr]
      rw[hr] at h;obtain rfl:=si h;obtain⟨p,rfl⟩:=cW hn;obtain⟨pos2,rfl⟩:=yY hr;exact⟨p,pos,pos2,rfl⟩
theorem aY.same{s:Shared}{h h':Heap}{av:Addr→Prop}{L:Addr}{v:Value}{u:V}(hL:av L)(hlt:∃ o,s.heap.get? L=some o)(hs:Heap.SameBut L h h')(r:aY prog w s h av v u):aY prog w s h' av v u:=by
 have hk:∀ b o,¬ av b→h.get? b=some o→h'.get? b=some o:=fun b o n e=>(hs.2 b fun x=>n (x▸hL)).trans e;cases u with
 |ex x=>exact r
 |fz d=>exact(show Rep prog w h av v d from r).mono hk fun _ _ _ x=>x
 |own d =>
  obtain⟨a,e,hn,rb⟩:=r;refine⟨a,e,hn,rb.mono (fun b o n e=>hk b o (fun x=>n (.inl x)) e) (fun _ _ _ x=>x) fun o e=>(hs.2 a fun x=>?_).trans e⟩;obtain⟨o,ho⟩:=hlt;simp only[x,ho] at hn;exact sn hn
theorem Mj{ev':EV}(h':∀ σ e,aE prog w mg mb base n true (env::l₀) sc σ e (ev' σ e)){F:Nat}{e':Expr}{c z:Str}{p pos2 pos3:Pos}{A:Around}{Q:Flow→Shared→Prop}{E:Value→Shared→Prop}{y:X}{v:Value}{s':Shared}{pd pc:Str×Option (List Str)}{v0:Option V}{u:V}
  (hA:Room n hd (env::l₀) A) (Y:Act prog w mg mb base l₀ env sc av₀ s₀ σ av s) (hg:isG sc c=true) (hcd:bE c prog.main.body=some pd) (hcc:bE y.cls prog.main.body=some pc) (hsb:fM prog.main.body 4 y.cls c=true)
  (hz:sc.names.lookup z=some .local) (hg0:σ.get z=some v0) (hu:ev' (aA.clear (σ.set z (.ex y)) (esc F e')) e'=.ok u) (hr:∀ v s',K l₀ s₀ s'→aY prog w s₀ s'.heap av₀ v u→Q (.ret v) s') (fly:Fly prog w mg (env::l₀) s av y v s') :
  wpAny (model prog w) A (noteFrame v env) (fun _ s₂=>wpAny (model prog w) A (setFlight v none) (fun _ s₃=>wpAny (model prog w) A (handleBy v env [.ExceptHandler (some (.Name c p)) (some z) [.Return (some e') pos2] pos3]) Q E s₃) E s₂) E s':=by
 obtain⟨D,bmD,d1,d2,_⟩:=Y.inv.gnd.glo.cls c pd hcd;obtain⟨Ca,bmC,c1,c2,c3⟩:=Y.inv.gnd.glo.cls y.cls pc hcc;have hcon:=(c3 c pd D hcd d1).trans hsb;refine Md hA.frames Y.frm Y.inv.gnd fly fun s₂ fly2=>?_;obtain⟨k2',e2,rfl,se,⟨na,oe,vs,C',o1,o2,o3,o4,o5⟩,tb⟩:=id fly2;obtain rfl:=Value.ref.inj (si (c1.symm.trans o4));have Y2:=Y.k k2';refine wpAny_handleBy_cons (codeAny_handlers_test (mH Y2.inv hg d1 ?_)) (by intro q;cases q);refine Mh c2.obj d2.obj (fun a o h=>Y2.inv.gnd.stay _ _ h) o1 o3 d2.exc hcon ?_;clear o1 o2 o3 o5 hcon c1 c2 c3 d1 d2;refine codeAny_handlers_suite_as (Me Y.inv.gnd fly2 fun s₃ fly3=>?_);obtain⟨k3'',e3,ee,_,xa,_⟩:=id fly3;obtain rfl:=Value.ref.inj ee;refine(Y.k k3'').put hg0 (v:=.ex y) ⟨_,rfl,xa⟩ (fun _ _ q=>by cases q) fun s4 Z _ _ _=>wpAny_execs_cons (wpAny_Return_some ?_);obtain⟨av3,Y4,_⟩:=Z.clear (esc F e');refine(h' _ e').val (hA.mark _) Y4.inv hu fun v s' k r=>?_;have Y5:=Y4.k k;obtain⟨mL,hnL⟩:=Y5.ns;refine wpAny_nameGoes (Y5.loc z hz) hnL (by rw[Y5.inv.kind];rfl) fun h'' m' _ hs=>?_;obtain⟨f1,f2,_⟩:=Y5.fresh env.locals (.inl rfl);exact hr v _ (Y5.k0.on f2 fun b o hb eb=>(hs.2 b hb).trans eb) ((r.same f1 (Y4.liveMn (.inl rfl)) hs).out Y4)
theorem Ml{ev ev':EV}{C:Ctx}(hK:KSound prog w mg mb base n C)(h:∀ σ e,aE prog w mg mb base n hd (env::l₀) sc σ e (ev σ e))(h':∀ σ e,aE prog w mg mb base n true (env::l₀) sc σ e (ev' σ e)){F:Nat}{e e':Expr}{c:Str}{x:Option Str}{p pos pos1 pos2 pos3:Pos} :
  aQ prog w mg mb base n hd l₀ env sc s₀ σ (exec (.Try [.Return (some e) pos1] [.ExceptHandler (some (.Name c p)) x [.Return (some e') pos2] pos3] [] [] pos) env) fun _ kr=>l7 ev ev' F C sc σ e c x e' kr:=by
 intro av₀ A s av hA X kn kr fin Q E hf hne hp hn hr he;obtain⟨hg,hf⟩:=iH (show(if isG sc c=true∧(C.init c).isSome=true then _ else R.no)=fin from hf) hne;obtain⟨hg,hin⟩:=hg;obtain⟨av1,Y,hsub⟩:=X.clear (esc F e);refine wpAny_Try_except (wpAny_execs_cons (wpAny_Return_some ?_));have hE:=h (aA.clear σ (esc F e)) e;cases hev:ev (aA.clear σ (esc F e)) e with
 |no=>rw[hev] at hf;exact absurd hf.symm hne
 |ok v0 =>
  rw[hev] at hf;exact hE.val hA Y.inv hev fun v s' k r=>hr v s' v0 (Y.k k).k0 (r.out Y) hf
 |exc y =>
  rw[hev] at hf;refine hE A env s av1 hA Y.inv (k:=R.ok) (fin:=R.exc y) ⟨by rw[hev];rfl,nofun⟩ (fun v s' u _ _ e=>by cases e) fun y' v s' ey fly=>?_;cases ey;dsimp only at hf;rw[show C.sub y.cls c=eJ prog.main.body y.cls c by rw[hK.sub]] at hf;have hini:C.init c=(bE c prog.main.body).map (·.2):=by rw[hK.init]
  rw[hini] at hin;cases hcd:bE c prog.main.body with
  |none=>rw[hcd] at hin;exact bft hin
  |some pd =>
   refine ocs (bE y.cls prog.main.body) (fun hcc=>?_) fun pc hcc=>?_
   ·try rewrite[hcc]
    have:eJ prog.main.body y.cls c=none:=by unfold eJ;rw[hcc,Option.isSome_none,Bool.and_false];rfl
    rw[this] at hf;exact absurd hf.symm hne
   ·try rewrite[hcc]
    have hso:eJ prog.main.body y.cls c=some (fM prog.main.body 4 y.cls c):=by unfold eJ;rw[hcc,hcd];rfl
    rw[hso] at hf;refine bcs (fM prog.main.body 4 y.cls c) (fun hsb=>?_) fun hsb=>?_
    ·try rewrite[hsb]
     rw[hsb] at hf;exact absurd hf.symm hne
    ·try rewrite[hsb]
     rw[hsb] at hf;cases x with
     |some z =>
      obtain⟨hz,hf⟩:=iH (show(if sc.names.lookup z=some .local then rb (ofP (cQ z (.ex y) (aA.clear σ (esc F e)))) fun σ=>rb (nx (ev' (aA.clear σ (esc F e')) e')) kr else R.no)=fin from hf) hne;obtain⟨σ1,hs1,hf⟩:=cX hf hne;obtain⟨v0,hg0,rfl⟩:=fR hs1;obtain⟨u,hu,hf⟩:=Fin.nx ⟨hf,hne⟩;exact Mj h' hA Y hg hcd hcc hsb hz hg0 hu (fun v s' k r=>hr v s' u k r hf) fly
     |none=>exact absurd (show R.no=fin from hf).symm hne
end
end Mine
namespace Mine
open PySem
theorem yZ{kindOf:Str→Option NameKind}:∀ {ps:List Str} {vs:List Value} {m:Str→Option Value} {x:Str},x∉ps→bindC kindOf (ps.zip vs) m x=m x
 | [],_,_,_,_=>rfl
 |_::_,[],_,_,_=>rfl
 |p::ps,v::vs,m,x,h=>by
  show bindC kindOf (ps.zip vs) _ x=m x;simp at h;rw[yZ h.2]
  split
  ·rfl
  ·exact if_neg h.1
theorem y0{kindOf:Str→Option NameKind}:∀ {ps:List Str} {vs:List Value} {m:Str→Option Value} {x:Str} {v:Value} {i:Nat},ps.Nodup→ps[i]?=some x→vs[i]?=some v→kindOf x≠some .local→bindC kindOf (ps.zip vs) m x=some v
 | [],_,_,_,_,_,_,h,_,_=>by simp at h
 |_::_,[],_,_,_,_,_,_,h,_=>by simp at h
 |p::ps,u::vs,m,x,v,i,hn,h1,h2,hk=>by
  show bindC kindOf (ps.zip vs) _ x=some v;obtain⟨n1,n2⟩:=List.nodup_cons.mp hn;cases i with
  |zero =>
   simp at h1 h2;subst h1;subst h2;rw[yZ n1,if_neg hk];exact if_pos rfl
  |succ i=>exact y0 n2 (by simpa using h1) (by simpa using h2) hk
theorem Mm:∀ (names:List (Str×NameKind)) (k:Nat) (acc:List (Str×Addr)) (x:Str),(acc.lookup x).isSome=true→((cellsFrom k names acc).lookup x).isSome=true:=by
 intro v0
 induction v0 with
 |nil =>
  intro _ _ _ h;exact h
 |cons pp r ih =>
  obtain⟨y,kd⟩:=pp;intro k acc x h;unfold cellsFrom
  split
  ·refine ih _ _ x ?_;simp only[List.lookup_cons]
   split
   ·rfl
   ·exact h
  ·exact ih _ _ x h
theorem nA:∀ (names:List (Str×NameKind)) (k:Nat) (acc:List (Str×Addr)) (x:Str),(x,NameKind.cell)∈names→((cellsFrom k names acc).lookup x).isSome=true
 | (y,kd)::r,k,acc,x,h=>by
  unfold cellsFrom;rcases List.mem_cons.mp h with e | h
  ·cases e;rw[if_pos (by rfl)];refine Mm r _ _ _ ?_;simp only[List.lookup_cons];simp
  ·split
   ·exact nA r _ _ x h
   ·exact nA r _ _ x h
theorem qY{ps:List Str}{us:List V}:∀ {names:List (Str×NameKind)} {x:Str} {v:Option V},aA.get (dN ps us names) x=some v→v=(ps.zip us).lookup x∧((x,NameKind.local)∈names∨(x,NameKind.cell)∈names):=by
 intro v0
 induction v0 with
 |nil =>
  intro _ _ h;exact ns h
 |cons pp r ih =>
  obtain⟨y,k⟩:=pp;intro x v h;have step:∀ {k'},(k'=NameKind.local∨k'=NameKind.cell)→aA.get ((y,(ps.zip us).lookup y)::dN ps us r) x=some v→v=(ps.zip us).lookup x∧((x,NameKind.local)∈(y,k')::r∨(x,NameKind.cell)∈(y,k')::r):=fun hk' h=>by
   by_cases hxy:x=y
   ·subst hxy;rw[aA.get_cons_eq] at h;obtain rfl:=si h;refine⟨rfl,?_⟩;rcases hk' with rfl | rfl
    ·exact .inl List.mem_cons_self
    ·exact .inr List.mem_cons_self
   ·rw[aA.get_cons_ne hxy] at h;obtain⟨h1,h2⟩:=ih h;exact⟨h1,h2.imp (List.mem_cons_of_mem _) (List.mem_cons_of_mem _)⟩
  have skip:∀ {k'},aA.get (dN ps us r) x=some v→v=(ps.zip us).lookup x∧((x,NameKind.local)∈(y,k')::r∨(x,NameKind.cell)∈(y,k')::r):=fun h=>by
   obtain⟨h1,h2⟩:=ih h;exact⟨h1,h2.imp (List.mem_cons_of_mem _) (List.mem_cons_of_mem _)⟩
  cases k with
  | «local»=>exact step (.inl rfl) h
  |cell=>exact step (.inr rfl) h
  |_=>exact skip h
theorem qZ:∀ {l:List Str},hX l=true→l.Nodup:=by
 intro v0
 induction v0 with
 |nil =>
  intro _;exact List.nodup_nil
 |cons x r ih =>
  intro h;have h:(!r.contains x&&hX r)=true:=h;simp only[Bool.and_eq_true,Bool.not_eq_true',Bool.eq_false_iff] at h;exact List.nodup_cons.mpr ⟨by simpa using h.1,ih h.2⟩
theorem j0{α:Type}:∀ {l:List (Str×α)} {x:Str} {k:α},(l.map (·.1)).Nodup→(x,k)∈l→l.lookup x=some k
 | (y,d)::r,x,k,hn,h=>by
  obtain⟨n1,n2⟩:=List.nodup_cons.mp (show(y::r.map (·.1)).Nodup from hn);rcases List.mem_cons.mp h with e | h
  ·cases e;simp[List.lookup]
  ·have hne:(x==y)=false:=by
    rw[beq_eq_false_iff_ne];intro e;exact n1 (by rw[← e];exact List.mem_map.mpr ⟨(x,k),h,rfl⟩)
   rw[List.lookup_cons,hne];exact j0 n2 h
structure FnOk(a:Arguments)(sc:Scope):Prop where
 params:∃ kwd dfl,a=⟨[],a.args,none,[],kwd,none,dfl⟩
 kind:sc.kind=.function
 gen:sc.isGenerator=false
 cor:sc.isCoroutine=false
 nodup:(sc.names.map (·.1)).Nodup
 anodup:(a.args.map (·.arg)).Nodup
 nofree:∀ p∈sc.names,p.2≠.free
 akind:∀ x∈a.args,sc.names.lookup x.arg=some .local∨sc.names.lookup x.arg=some .cell
 dbg:sc.names.lookup (Str.ofString "__debug__")=none
 cld:sc.names.lookup (Str.ofString "__classdict__")=none
theorem Mo{a:Arguments}{sc:Scope}(h:l8 a sc=true):FnOk a sc:=by
 unfold l8 at h;simp only[Bool.and_eq_true] at h;obtain⟨⟨⟨⟨⟨⟨⟨⟨⟨⟨⟨⟨⟨⟨h1,h2⟩,h3⟩,h4⟩,h5⟩,h6⟩,h7⟩,h8⟩,h9⟩,h10⟩,h11⟩,h12⟩,h13⟩,h14⟩,h15⟩:=h;refine⟨?_,by simpa using h7,by simpa using h8,by simpa using h9,qZ h10,qZ h11,fun p hp=>by simpa using List.all_eq_true.mp h12 p hp,fun x hx=>?_,by simpa using h14,by simpa using h15⟩
 ·obtain⟨po,as,va,ko,kd,kw,df⟩:=a;simp only[List.isEmpty_iff,Option.isNone_iff_eq_none] at h1 h2 h3 h4;subst h1;subst h2;subst h3;subst h4;exact⟨kd,df,rfl⟩
 ·have:=List.all_eq_true.mp h13 x hx
  split at this
  ·rename_i e;exact .inl e
  ·rename_i e;exact .inr e
  ·exact bft this
section
variable {prog:Program} {w:World} {mg mb:Str→Option Value} {base:Heap} {l:List Env}
theorem Mp{s s₁:Shared}{av:Addr→Prop}{a:Arguments}{b:List Stmt}{sc:Scope}{f:Str}{pm cd doc:Value}{ad:Addr}{vs:List Value}{us:List V}{env:Env}(hE:env=callEnvC (Calls.docDef f a b sc pm cd doc) s.heap.objs.size ad)(G:Gnd prog w mg mb base l av s)
  (hargs:eV (CA prog w mg l av) s vs us) (hok:FnOk a sc) (hin:InCallC s env.locals (bindL env.kindOf ((a.args.map (·.arg)).zip vs) fun _=>none) env.cells (bindC env.kindOf ((a.args.map (·.arg)).zip vs) fun _=>none) s₁) :
  ∃ av1,Act prog w mg mb base l env sc av s (dN (a.args.map (·.arg)) us sc.names) av1 s₁:=by
 have hkind:∀ x,env.kindOf x=sc.names.lookup x:=fun _=>by rw[hE];rfl
 have hL:env.locals=s.heap.objs.size:=by rw[hE];rfl
 have hcells:env.cells=cellsFrom (s.heap.objs.size+1) sc.names []:=by rw[hE];rfl
 have ek:env.scope.kind=.function:=by rw[hE];exact hok.kind
 have eg:env.globals=mainGlobals:=by rw[hE];rfl
 have eb:env.builtins=builtinsNs:=by rw[hE];rfl
 have hfrm:env.frame=some env.locals:=by rw[hE];rfl
 clear hE;have dead:∀ b,Mn env b→s.heap.get? b=none:=fun b h=>by
  rcases h with h | ⟨x,h⟩
  ·rw[h,hL];exact bL _
  ·exact Heap.get?_none_of_le (by
    have:=hin.above x b (eM h);rw[hL] at this;exact Nat.le_of_lt this)
 have notav:∀ b,Mn env b→¬ av b:=fun b h x=>by obtain⟨o,e⟩:=G.avlt b x;rw[dead b h] at e;exact ns e
 have neL:∀ x c,env.cells.lookup x=some c→c≠env.locals:=fun x c e=>Nat.ne_of_gt (hin.above x c (eM e));have notown:∀ x d,aA.get (dN (a.args.map (·.arg)) us sc.names) x≠some (some (.own d)):=fun x d h=>by
  obtain⟨h1,_⟩:=qY h;obtain⟨i,_,h3⟩:=qQ h1.symm;have hlt':i < vs.length:=by
   have:=(List.getElem?_eq_some_iff.mp h3).1;rw[hargs.len];exact this
  exact(hargs.at i _ _ (List.getElem?_eq_getElem hlt') h3).2 d rfl
 have cellOfName:∀ x,sc.names.lookup x=some .cell→∃ c,env.cells.lookup x=some c:=fun x hx=>by
  have:=nA sc.names (s.heap.objs.size+1) [] x (eM hx);rw[← hcells] at this;exact Option.isSome_iff_exists.mp this
 have keep:=hin.toInCall.keep;have k0:Kp s s₁:=by obtain⟨h,t,e⟩:=hin.toInCall.same;subst e;exact⟨h,t,rfl,keep⟩
 have back:∀ b o,s.heap.get? b=some o→(av b∨Mn env b)→av b:=fun b o e h=>h.elim id fun h=>by rw[dead b h] at e;exact ns e
 have bfr:base.get? env.locals=none:=by
  refine ocs (base.get? env.locals) (fun e=>?_) fun o e=>?_
  ·try rewrite[e]
   rfl
  ·try rewrite[e]
   have:=G.stay _ _ e;rw[dead _ (.inl rfl)] at this;exact ns this
 obtain⟨oL,esL,epL,e1,e2,e3⟩:=id hin.toInCall.ns;have noO:∀ {P:Prop} x a',bW env (dN (a.args.map (·.arg)) us sc.names) s₁.heap x a'→P:=fun x a' ⟨⟨d,e⟩,_⟩=>absurd e (notown x d);have frb:∀ b,frs l b→av b∧∃ o,s.heap.get? b=some o:=fun b h=>⟨G.fav b h,by obtain⟨_,o,e,_⟩:=G.ff.mem h;exact⟨o,e⟩⟩
 refine⟨fun b=>av b∨Mn env b,{ inv:=?_,stay0:=G.stay,frm:=hfrm,fr0:=fun b h=>frb b h,k0:=K.of k0,bas:=fun b h=>Or.inl h,ns:=⟨_,hin.toInCall.ns⟩,cells:=fun x c e=>⟨neL x c e,_,hin.cell x c e⟩,fresh:=fun b h=>⟨.inr h,dead b h,notav b h⟩,capart:=fun x y c hx hy=>name_of_addr hin.apart (eM hx) (eM hy),names:=fun x v h=>?_,ownA:=fun x a h=>noO x a h,ownI:=fun x y a h=>noO x a h,loc:=fun x h=>(hkind x).trans h }⟩
 ·refine { gnd:={ G.k (K.of k0) with ff:=⟨by rw[ek];nofun,⟨env.locals,oL,hfrm,bfr,e1,fun vs q=>by rw[e2] at q;cases q⟩,(G.k (K.of k0)).ff⟩,fav:=fun b h=>((jY hfrm).mp h).elim (fun h=>.inr (.inl h)) fun h=>.inl (G.fav b h),avlt:=fun b h=>?_,avS:=.inl G.avS },kind:=ek,eg:=eg,eb:=eb,dbg:=hok.dbg,cld:=hok.cld,glob:=fun x hx=>?_,kinds:=fun x hx=>?_,get:=fun x v hl hg=>?_ }
  ·rcases h with h | h | ⟨x,h⟩
   ·exact(G.k (K.of k0)).avlt b h
   ·exact⟨oL,h▸e1⟩
   ·obtain⟨o,e,_⟩:=hin.cell x b h;exact⟨o,e⟩
  ·unfold isG at hx;rw[hkind];exact eq_of_beq hx
  ·rw[hkind];refine⟨hx,?_⟩;refine ocs (sc.names.lookup x) (fun hk=>?_) fun k hk=>?_
   ·try rewrite[hk]
    rw[hk] at hx;exact bft hx
   ·try rewrite[hk]
    rw[hk] at hx;cases k with
    |cell=>exact cellOfName x hk
    |free=>exact absurd rfl (hok.nofree _ (eM hk))
    |_=>exact bft hx
  ·obtain⟨h1,h2⟩:=qY hg;obtain⟨i,h3,h4⟩:=qQ h1.symm;have hlt':i < vs.length:=by
    have:=(List.getElem?_eq_some_iff.mp h4).1;rw[hargs.len];exact this
   have h5:=List.getElem?_eq_getElem hlt';obtain⟨r,hno⟩:=hargs.at i _ _ h5 h4;refine⟨vs[i],?_,?_⟩
   ·rcases h2 with h2 | h2
    ·have hk:=j0 hok.nodup h2;exact .inl ⟨by rw[hkind];exact hk,_,hin.toInCall.ns,qS hok.anodup h3 h5 (by rw[hkind];exact hk)⟩
    ·have hk:=j0 hok.nodup h2;obtain⟨c,hc⟩:=cellOfName x hk;refine .inr ⟨.inl (by rw[hkind];exact hk),c,hc,?_⟩;have:=hin.cell x c hc
     rwa [y0 hok.anodup h3 h5 (by rw[hkind,hk];intro e;cases e)] at this
   ·cases v with
    |fz d=>exact(show Rep prog w s.heap av _ d from r).mono (fun b o _ e=>keep b o e) back
    |own d=>exact absurd rfl (hno d)
    |ex x=>obtain⟨e,h,r⟩:=r;exact⟨e,h,r.mono (fun b o _ e=>keep b o e) back⟩
 ·obtain⟨_,h2⟩:=qY h;rcases h2 with h2 | h2
  ·have hk:=j0 hok.nodup h2;exact⟨by unfold isL;rw[hk],.inl (by rw[hkind];exact hk)⟩
  ·have hk:=j0 hok.nodup h2;exact⟨by unfold isL;rw[hk],.inr ⟨by rw[hkind];exact hk,cellOfName x hk⟩⟩
end
end Mine
namespace Mine
open PySem
section
variable {prog:Program} {w:World} {mg mb:Str→Option Value} {base:Heap} {n:Nat} {hd:Bool} {l₀:List Env} {env:Env} {sc:Scope} {s₀:Shared}
theorem Mq{ev:EV}{σ:aA}{t:Expr}{b:List Stmt}{pos:Pos}{body:aA→KN→KR→R V}(ht:∀ σ,bO prog w mg mb base n hd (env::l₀) sc σ t (ev σ t))(hb:∀ σ,aQ prog w mg mb base n hd l₀ env sc s₀ σ (execs b env) (body σ)) :
  aQ prog w mg mb base n hd l₀ env sc s₀ σ (exec (.While t b [] pos) env) fun kn kr=>dM (fun σ=>tst (ev σ t)) body fN σ kn kr:=by
 intro av₀ A s av hA X kn kr fin Q E hf hne hp hn hr he;refine wpAny_While (codeAny_whileLoop (fun k st=>∃ σi avi,Act prog w mg mb base l₀ env sc av₀ s₀ σi avi st∧Fr (env::l₀) av₀ s av st avi∧dM (fun σ=>tst (ev σ t)) body k σi kn kr=fin) ?_ fN ⟨σ,av,X,Fr.rf _ s av,hf⟩)
 rintro k st ⟨σi,avi,Y,fr,hwi⟩
 cases k with
 |zero=>exact absurd hwi.symm hne
 |succ k =>
  replace hwi:rb (tst (ev σi t)) (fun b=>if b then body σi (fun σ=>dM (fun σ=>tst (ev σ t)) body k σ kn kr) kr else kn σi)=fin:=hwi;refine wpAny_passesOwn hp (ht σi A env st avi hA Y.inv ⟨hwi,hne⟩ (fun c s1 k1 e=>?_) fun x v s' e f=>he x v s' e (Y.up f));have Y1:=Y.k k1;have fr1:=fr.tr (Y.frk k1);cases c with
  |false=>exact wpAny_execs_nil (hn _ _ _ Y1 fr1 e)
  |true=>exact wpAny_passesOwn hp (hb σi av₀ A s1 avi hA Y1 e hne hp (fun s3 σ3 av3 Y3 fr3 e3=>⟨k,Nat.lt_succ_self k,σ3,av3,Y3,fr1.tr fr3,e3⟩) hr he)
theorem y5{C:Ctx}{k:Nat}{sc:Scope}{σ:aA}{e:Expr}(h:bad e=true):evE C k sc σ e=.no:=by
 cases k with
 |zero=>rfl
 |succ k=>exact yE h
theorem Mr{C C':Ctx}(hK:KSound prog w mg mb base n C)(hK':KSound prog w mg mb base n C')(hc':C'.hd=true){F k:Nat}{rec:Stmt→aA→KN→KR→R V}(ih:∀ σ st,aQ prog w mg mb base n C.hd l₀ env sc s₀ σ (exec st env) (rec st σ))(σ:aA)(st:Stmt) :
  aQ prog w mg mb base n C.hd l₀ env sc s₀ σ (exec st env) (vU (evE C (k+1) sc) (evE C' (k+1) sc) F C sc rec st σ):=by
 have h:∀ σ e,aE prog w mg mb base n C.hd (env::l₀) sc σ e (evE C (k+1) sc σ e):=fun σ e=>(jX hK (k+1) sc σ e).1;have h':∀ σ e,aE prog w mg mb base n true (env::l₀) sc σ e (evE C' (k+1) sc σ e):=fun σ e=>hc'▸(jX hK' (k+1) sc σ e).1;have hbad:∀ σ e,bad e=true→evE C (k+1) sc σ e=.no:=fun σ e hb=>y5 hb;cases st with
 |Return o pos =>
  cases o with
  |none=>exact fun av₀ A s av hA X _ _ _ _ _ hf hne hp hn hr he=>wpAny_Return_none (hr _ _ (.fz .none) X.k0 .none hf)
  |some e=>exact Ku fun σ=>h σ e
 |Assign ts e pos =>
  cases ts with
  |nil=>exact aQ.no
  |cons t r =>
   cases r with
   |nil=>exact Lj (rec:=evE C k) (fun _ _ _ hb=>y5 hb) rfl (fun sc σ e=>jX hK k sc σ e) h
   |cons=>exact aQ.no
 |Expr e pos=>exact Lk hbad h
 |If t b o pos=>exact Kw (jX hK (k+1) sc _ t).2 (iG fun st _ σ=>ih σ st) (iG fun st _ σ=>ih σ st)
 |For t it b o pos =>
  cases o with
  |nil=>exact Ln hbad h fun σ=>iG fun st _ σ=>ih σ st
  |cons=>exact aQ.no
 |While t b o pos =>
  cases o with
  |nil=>exact Mq (fun σ=>(jX hK (k+1) sc σ t).2) fun σ=>iG fun st _ σ=>ih σ st
  |cons=>exact aQ.no
 |Raise o c pos =>
  cases o with
  |none=>exact aQ.no
  |some e =>
   cases c with
   |none=>exact Mf hK rfl hbad h
   |some=>exact aQ.no
 |Try b hs o f pos =>
  cases o with
  |cons=>exact aQ.no
  |nil =>
   cases f with
   |cons=>exact aQ.no
   |nil =>
    show aQ prog w mg mb base n C.hd l₀ env sc s₀ σ _ fun kn kr=>match fO b with
     |some e=>(match l0 hs with | some (c,x,e')=>if C.hd then .no else l7 (evE C (k+1) sc) (evE C' (k+1) sc) F C sc σ e c x e' kr | none=>.no)
     |none=>.no
    cases hr:fO b with
    |none=>exact aQ.no
    |some e =>
     cases hcl:l0 hs with
     |none=>exact aQ.no
     |some c =>
      obtain⟨pos1,rfl⟩:=yY hr;obtain⟨p,pos3,pos2,rfl⟩:=Mi hcl;obtain⟨c,x,e'⟩:=c;show aQ prog w mg mb base n C.hd l₀ env sc s₀ σ _ fun kn kr=>if C.hd then .no else l7 (evE C (k+1) sc) (evE C' (k+1) sc) F C sc σ e c x e' kr;cases hh:C.hd with
      |true=>exact aQ.no
      |false=>exact Ml hK (fun σ e=>hh▸h σ e) h'
 |Pass pos=>exact fun av₀ A s av hA X _ _ _ _ _ hf hne hp hn hr he=>wpAny_Pass (hn _ _ _ X (Fr.rf _ s av) hf)
 |_=>exact aQ.no
theorem Ms{C C':Ctx}(hK:KSound prog w mg mb base n C)(hK':KSound prog w mg mb base n C')(hc':C'.hd=true){F j:Nat}:∀ (k:Nat) (σ:aA) (st:Stmt),aQ prog w mg mb base n C.hd l₀ env sc s₀ σ (exec st env) (evS (evE C (j+1) sc) (evE C' (j+1) sc) F C sc k st σ):=by
 intro v0
 induction v0 with
 |zero =>
  intro _ _;exact aQ.no
 |succ k ih =>
  intro σ st;exact Mr hK hK' hc' (fun σ st=>ih σ st) σ st
theorem Room.deeper{l:List Env}{A:Around}(h:Room (n+1) hd l A)(env:Env):Room n hd (env::l) (A.deeper env) where
 depth:=by have:=h.depth;show A.depth+1+n+1 < _;exact Di this
 units:=by have:=h.units;show A.units+3+16*n+300 < _;exact Dj this
 handled:=h.handled
 guards:=h.guards
 frames:=Around.frames_deeper h.frames
theorem q0(f:Str)(h:(dE f prog.main.body).isSome=true):∃ a b sc,dE f prog.main.body=some (a,b,sc):=by
 obtain⟨⟨a,b,sc⟩,e⟩:=Option.isSome_iff_exists.mp h;exact⟨a,b,sc,e⟩
theorem y6:∀ n hd,KSound prog w mg mb base n (dO prog.main.body (run prog.main.body n hd) hd)
 |0,hd=>⟨rfl,rfl,rfl,q0,fun f us ad hf hh A l s av vs hA G hargs β k fin Q E hfin hq he=>hfin.no.elim⟩
 |n+1,hd=>by
  refine⟨rfl,rfl,rfl,q0,fun f us ad hf hh A l s av vs hA G hargs β k fin Q E hfin hq he=>?_⟩;obtain⟨a,b,sc,e⟩:=q0 f hh;have ih:=y6 n;replace hfin:Fin (match dE f prog.main.body with
   |none=>.no
   |some (a,b,sc) =>
    if a.args.length=us.length∧l8 a sc=true then
     blk (evS (evE (dO prog.main.body (run prog.main.body n hd) hd) cV sc) (evE (dO prog.main.body (run prog.main.body n true) true) cV sc) cV (dO prog.main.body (run prog.main.body n hd) hd) sc cV) b (dN (a.args.map (·.arg)) us sc.names) (fun _=>.ok (.fz .none)) .ok
    else .no) k fin:=hfin
  rw[e] at hfin;obtain⟨⟨hlen,hfn⟩,hfin⟩:=Fin.ite hfin;have hok:=Mo hfn;obtain⟨ad',o,pm,cd,doc,g1,g2,g3,g4⟩:=G.glo.fn f a b sc e;rw[hf] at g1;cases g1;obtain⟨kwd,dfl,hpar⟩:=hok.params;refine wpAny_call (codeAny_call_cells (binds:=(a.args.map (·.arg)).zip vs) (by have:=hA.depth;exact Dk this) (G.stay _ _ g2) g3 (G.glo.nolimit.keeps G.stay) (g4.keeps G.stay) rfl (yU hpar rfl (by rw[hlen,hargs.len]) hok.anodup) rfl (fun x hx=>?_) (fun s₁ hin=>?_) hok.cor hok.gen hok.kind)
  ·obtain⟨ar,har,e⟩:=List.mem_map.mp (List.of_mem_zip hx).1;show sc.names.lookup x.1=_∨_;rw[← e];rcases hok.akind ar har with h | h
   ·exact .inl h
   ·exact .inr ⟨h,nA _ _ _ _ (eM h)⟩
  ·obtain⟨av1,X⟩:=Mp rfl G hargs hok hin;have B:=iG (b:=b) (σ:=dN (a.args.map (·.arg)) us sc.names) (fun st _ σ=>Ms (l₀:=l) (env:=callEnvC (Calls.docDef f a b sc pm cd doc) s.heap.objs.size ad) (sc:=sc) (s₀:=s) (F:=cV) (j:=23) (ih hd) (ih true) rfl cV σ st);refine B av _ s₁ av1 (hA.deeper _) X rfl hfin.ne PassesOwn.leaving (fun s' σ' av' Z _ e1=>?_) (fun v s' u k1 r e1=>?_) fun x v s' e1 u=>?_
   ·exact hq _ _ (.fz .none) Z.k0 .none ((e1▸hfin:Fin (.ok (.fz .none)) k fin).ok)
   ·exact hq _ _ u k1 r ((e1▸hfin:Fin (.ok u) k fin).ok)
   ·refine Mc (Around.frames_deeper hA.frames) X.frm (X.fresh _ (.inl rfl)).2.1 u fun s'' fl=>he x _ _ ?_ fl;exact((e1▸hfin:Fin (.exc x) k fin).1).symm
end
end Mine
namespace Mine
open PySem
theorem y7{h:Heap}{l:List Str}:∀ {bN:List Str},mD h l bN=true→TailN h bmV l (jT h bN):=by
 intro v0
 induction v0 with
 |nil =>
  intro _;exact .base
 |cons n r ih =>
  intro e;obtain⟨e1,e2⟩:=Bool.and_eq_true_iff.mp (show((match h.clsAt mainGlobals n with | some x=>h.isNs x.2.2.ns&&pO h x.2.2.ns l | none=>false)&&mD h l r)=true from e);refine ocs (h.clsAt mainGlobals n) (fun hc=>?_) fun x hc=>?_
  ·try rewrite[hc]
   simp only[hc] at e1;exact bft e1
  ·try rewrite[hc]
   obtain⟨a,o,cd⟩:=x;simp only[hc] at e1;obtain⟨h1,h2,h3⟩:=Heap.clsAt_spec hc;obtain⟨f1,f2⟩:=Bool.and_eq_true_iff.mp e1;obtain⟨oc,dd,dt,sl⟩:=o;obtain rfl:dt=.cls cd:=h3;show TailN h bmV l (pN h n::jT h r);unfold pN;simp only[h1];exact .own h2 (.of_isNs f1) (fun n hn=>Option.isNone_iff_eq_none.mp (List.all_eq_true.mp f2 n hn)) (ih e2)
theorem Mt{fd:FuncData}{ps:List Str}(h:pP fd ps=true):∃ sf,InitF fd sf ps:=by
 unfold pP at h;cases ha:fd.params.args with
 |nil=>rw[ha] at h;exact bft h
 |cons a r =>
  rw[ha] at h;simp only[Bool.and_eq_true,decide_eq_true_eq,Bool.not_eq_true',List.isEmpty_iff,Option.isNone_iff_eq_none] at h;obtain⟨⟨⟨⟨⟨⟨⟨⟨⟨⟨⟨⟨⟨h1,h2⟩,h3⟩,h4⟩,h5⟩,h6⟩,h7⟩,h8⟩,h9⟩,h10⟩,h11⟩,h12⟩,h13⟩,h14⟩:=h;refine⟨a.arg,?_,?_,h7,h8,h9,h10,h11,qZ h12,fun x hx=>?_,h14⟩
  ·refine⟨fd.params.args,fd.params.kw_defaults,fd.params.defaults,?_,?_⟩
   ·clear ha h5 h6;revert h1 h2 h3 h4;generalize fd.params=pr;obtain⟨po,as,va,ko,kd,kw,df⟩:=pr;intro h4 h3 h1 h2;obtain rfl:po=[]:=h1;obtain rfl:va=none:=h2;obtain rfl:ko=[]:=h3;obtain rfl:kw=none:=h4;rfl
   ·rw[ha,← h5];rfl
  ·revert h6
   cases fd.body with
   |stmts b=>exact fun h6=>⟨b,rfl,of_decide_eq_true h6⟩
   |_=>exact fun h6=>by exact bft h6
  ·have:=List.all_eq_true.mp h13 x hx;simp only[Bool.and_eq_true,decide_eq_true_eq,Bool.not_eq_true'] at this;exact this
noncomputable def j4(h:Heap)(C:Addr)(bm:List Value):Option (List Str)→Prop
 |some ps=>(∀ p∈ps,typeLookup (.type "ValueError") p=pure none)→ClsI h C bm ps
 |none=>ClsP h C bm
theorem Mu{h:Heap}{bN:List Str}{ini:Option (List Str)}{c:Str}{x:Addr×Obj×ClassData}(hx:h.clsAt mainGlobals c=some x)(e:mE h bN ini x=true):j4 h x.1 (jT h bN) ini:=by
 obtain⟨C,o,cd⟩:=x;obtain⟨h1,h2,h3⟩:=Heap.clsAt_spec hx;obtain⟨oc,dd,dt,sl⟩:=o;obtain⟨nm,bs,mro,N,q,hdct,sn,sub,ab,col,hdel⟩:=cd;unfold mE at e;simp only[Bool.and_eq_true,decide_eq_true_eq,Bool.not_eq_true'] at e;obtain⟨⟨⟨⟨⟨⟨hcls,hmro⟩,hdl⟩,hsz⟩,hmk⟩,hns⟩,hin⟩:=e;obtain⟨l⟩:=sl;obtain⟨k0,k1,k2,k3,k5,rfl⟩:=six_places (l:=l) (by simpa using hsz) (by simpa using hmk);obtain rfl:oc=.type "type" := hcls;obtain rfl:dt=_:=h3;obtain rfl:hdel=false:=hdl;subst hmro;cases ini with
 |none =>
  obtain⟨i1,i2⟩:=Bool.and_eq_true_iff.mp hin;exact⟨N,nm,q,bs,hdct,sn,sub,ab,col,dd,k0,k1,k2,k3,k5,_,h2,.of_isNs hns,Option.isNone_iff_eq_none.mp i1,(y7 i2).tail (.head _)⟩
 |some ps =>
  unfold vV at hin;simp only[Bool.and_eq_true] at hin;obtain⟨⟨⟨i1,i2⟩,i3⟩,i4⟩:=hin;obtain rfl:hdct=true:=i1
  revert i2
  cases hi:h.nsMap N "__init__" with
  |none=>exact fun i2=>by exact bft i2
  |some v =>
   cases v with
   |ref fI =>
    intro i2;replace i2:(h.get? fI).any (pQ h ps)=true:=i2;refine ocs (h.get? fI) (fun ho=>?_) fun oI ho=>?_
    ·try rewrite[ho]
     rw[ho] at i2;exact bft i2
    ·try rewrite[ho]
     rw[ho] at i2;obtain⟨j1,j2⟩:=Bool.and_eq_true_iff.mp (show pQ h ps oI=true from i2)
     revert j2
     cases hd:oI.data with
     |func fd =>
      intro j2;obtain⟨j2,j3⟩:=Bool.and_eq_true_iff.mp j2;obtain⟨sf,I⟩:=Mt j3;exact fun hB=>⟨N,nm,q,bs,sn,sub,ab,col,dd,k0,k1,k2,k3,k5,_,fI,oI,fd,sf,h2,.of_isNs hns,hi,fun n hn=>Option.isNone_iff_eq_none.mp (List.all_eq_true.mp i3 n hn),y7 i4,ho,of_decide_eq_true j1,hd,.of_ok j2,I,hB⟩
     |_=>exact fun j2=>by exact bft j2
   |_=>exact fun i2=>by exact bft i2
end Mine
namespace Mine
open PySem PySem.W PyProof.Rows
theorem rA{c:Str}{p:Str×Option (List Str)}{body:List Stmt}(h:bE c body=some p):c∈jU body:=by
 induction body with
 |nil=>exact ns h
 |cons s r ih =>
  have skip:bE c r=some p→c∈jU (s::r):=fun h=>by
   obtain⟨q,hq,e⟩:=List.mem_filterMap.mp (ih h);exact List.mem_filterMap.mpr ⟨q,List.mem_cons_of_mem _ hq,e⟩
  replace h:(match sv s with | .cls n bs b=>if c=n then (match cM bs with | some [y]=>some (y,vL b) | _=>none) else bE c r | _=>bE c r)=some p:=h;cases e:sv s with
  |cls n bs b =>
   rw[e] at h
   by_cases x:c=n
   ·exact List.mem_filterMap.mpr ⟨s,List.mem_cons_self,by show(match sv s with | .cls n _ _=>some n | _=>none)=_;rw[e,x]⟩
   ·exact skip ((if_neg x).symm.trans (show(if c=n then _ else bE c r)=some p from h))
  |_=>rw[e] at h;exact skip h
noncomputable def iI(body:List Stmt)(mg:Str→Option Value)(h:Heap):Prop :=
 ∀ c p,bE c body=some p→∃ C bm,mg c=some (.ref C)∧j4 h C bm p.2∧∀ d q D,bE d body=some q→mg d=some (.ref D)→(Value.ref C::bm).contains (.ref D)=fM body 4 c d
theorem Mv{α:Type}{o:Option α}{p:α→Bool}(h:o.any p=true):∃ x,o=some x∧p x=true:=by
 cases o with
 |none=>exact bft h
 |some x=>exact⟨x,rfl,h⟩
theorem Mw{h:Heap}{body:List Stmt}(e:pR h body=true):iI body (h.nsMap mainGlobals) h:=fun c p hc=>by
 have e1:=List.all_eq_true.mp e c (rA hc);rw[hc] at e1;obtain⟨x,hx,e2⟩:=Mv (show(h.clsAt mainGlobals c).any (fun x=>mE h (mB body 4 c) p.2 x&&vW h body c x.1)=true from e1);obtain⟨e3,e4⟩:=Bool.and_eq_true_iff.mp e2;refine⟨x.1,_,(Heap.clsAt_spec hx).1,Mu hx e3,fun d q D hd hD=>?_⟩;have e5:=List.all_eq_true.mp e4 d (rA hd);rw[hD] at e5;exact of_decide_eq_true e5
theorem j4.keeps{h h':Heap}{C:Addr}{bm:List Value}(hk:∀ b o,h.get? b=some o→h'.get? b=some o):∀ {ini:Option (List Str)},j4 h C bm ini→j4 h' C bm ini
 |none,x=>by
  obtain⟨N,nm,q,bs,hdct,sn,sub,ab,col,dd,k0,k1,k2,k3,k5,mN,hC,hN,hni,T⟩:=x;exact⟨N,nm,q,bs,hdct,sn,sub,ab,col,dd,k0,k1,k2,k3,k5,mN,hk _ _ hC,hN.keeps hk,hni,T.keeps hk⟩
 |some ps,x=>fun hB=>by
  obtain⟨N,nm,q,bs,sn,sub,ab,col,dd,k0,k1,k2,k3,k5,mN,fI,oI,fd,sf,hC,hN,hi,hn,T,ho,hfc,hfd,hcd,I,hB⟩:=x hB;exact⟨N,nm,q,bs,sn,sub,ab,col,dd,k0,k1,k2,k3,k5,mN,fI,oI,fd,sf,hk _ _ hC,hN.keeps hk,hi,hn,T.keeps hk,hk _ _ ho,hfc,hfd,hcd.keeps hk,I,hB⟩
theorem iI.keeps{body:List Stmt}{mg:Str→Option Value}{h h':Heap}(x:iI body mg h)(hk:∀ b o,h.get? b=some o→h'.get? b=some o):iI body mg h' :=
 fun c p e=>by obtain⟨C,bm,h1,h2,h3⟩:=x c p e;exact⟨C,bm,h1,h2.keeps hk,h3⟩
noncomputable def y8(body:List Stmt):Prop:=∀ c b ps,bE c body=some (b,some ps)→∀ p∈ps,typeLookup (.type "ValueError") p=pure none
noncomputable def nB(f:Str):List DefRec→Option (Arguments×List Stmt×Scope)
 | []=>none
 |d::r=>if f=d.name then some (d.params,d.body,d.scope) else nB f r
theorem Mx{f:Str}{a:Arguments}{b:List Stmt}{sc:Scope}:∀ {l:List DefRec},nB f l=some (a,b,sc)→∃ d∈l,d.name=f∧d.params=a∧d.body=b∧d.scope=sc
 := by
 intro l
 induction l with
 |nil=>intro h;exact ns h
 |cons d r ih =>
  intro h;replace h:(if f=d.name then some (d.params,d.body,d.scope) else nB f r)=some (a,b,sc):=h
  by_cases e:f=d.name
  ·rw[if_pos e] at h;cases h;exact⟨d,List.mem_cons_self,e.symm,rfl,rfl,rfl⟩
  ·rw[if_neg e] at h;obtain⟨d',h1,h2⟩:=ih h;exact⟨d',List.mem_cons_of_mem _ h1,h2⟩
noncomputable def rB:List Str:=["isinstance", "len", "all", "sorted", "abs", "min", "repr", "list", "tuple", "dict", "set", "int", "str", "bool", "range", "enumerate", "reversed", "zip"]
theorem My{l:List (Str×Value)}{x:Str}{v:Value}(h:l.lookup x=some v):(x,v)∈l:=by
 induction l with
 |nil=>exact ns h
 |cons p r ih =>
  rw[List.lookup_cons] at h
  by_cases e:x=p.1
  ·rw[e,beq_self_eq_true] at h;obtain rfl:=si h;rw[e];exact List.mem_cons_self
  ·rw[beq_false_of_ne e] at h;exact List.mem_cons_of_mem _ (ih h)
theorem Mz:∀ p∈pU,p.1∈rB∧bootBuiltins p.1=some p.2∧p.1 ≠ "__name__" := by
 unfold pU
 iterate 18 (refine List.forall_mem_cons.mpr ⟨⟨by decide,by kernel_rfl,by decide⟩,?_⟩)
 exact fun _ h=>bT h
theorem M0{x:Str}{v:Value}(h:hY x=some v):x∈rB∧bootBuiltins x=some v∧x ≠ "__name__" := Mz _ (My h)
noncomputable def y9(body:List Stmt):List Str:=body.filterMap fun s=>(vK s).map (·.1)
theorem M1{body:List Stmt}{x:Str}{d:PyData}(h:gA body x=some d):x∈y9 body∧x ≠ "__name__" := by
 by_cases hx:x = "__name__"
 ·exact ns ((if_pos hx).symm.trans h)
 ·obtain⟨s,hs,he⟩:=List.exists_of_findSome?_eq_some ((if_neg hx).symm.trans h);obtain⟨p,e1,e2⟩:=Option.bind_eq_some_iff.mp he
  by_cases e:x=p.1
  ·exact⟨List.mem_filterMap.mpr ⟨s,hs,by rw[e1,e];rfl⟩,hx⟩
  ·exact ns ((if_neg e).symm.trans e2)
noncomputable def cE1(d e:PyData):Bool:=match d with
 | .int a=>(match e with | .int b=>a==b | _=>false)
 | .str a=>(match e with | .str b=>a==b&&decide (a.length≤aI) | _=>false)
 |_=>false
noncomputable def cEq(o q:Option PyData):Bool:=match o with
 |none=>true
 |some d=>(match q with | some e=>cE1 d e | none=>false)
theorem M2{o:Option PyData}{d:PyData}(h:cEq (some d) o=true):o=some d∧((∃ i,d=.int i)∨∃ s,d=.str s∧s.length≤aI):=by
 cases o with
 |none=>exact bft h
 |some e =>
  replace h:cE1 d e=true:=h;cases d with
  |int a =>
   cases e with
   |int b=>obtain rfl:=eq_of_beq (show(a==b)=true from h);exact⟨rfl,.inl ⟨_,rfl⟩⟩
   |_=>exact bft h
  |str a =>
   cases e with
   |str b =>
    obtain⟨h1,h2⟩:=Bool.and_eq_true_iff.mp (show(a==b&&decide (a.length≤aI))=true from h);obtain rfl:=eq_of_beq h1;exact⟨rfl,.inr ⟨_,rfl,of_decide_eq_true h2⟩⟩
   |_=>exact bft h
  |_=>exact bft h
theorem M3{p prog:Program}{w:World}{loose:List Str}{mean:ExcName→Option Value}{mg mb:Str→Option Value}{h:Heap}(T:Top p loose mean mg mb h)(X:iI prog.main.body mg h)(hB:y8 prog.main.body)
  (hfn:∀ f,dE f prog.main.body=nB f (recsOf p)) (hc:((y9 prog.main.body).all fun x=>cEq (gA prog.main.body x) (valOf p x))=true)
  (hfree:(rB.all fun x=>!startupNames.contains x&&!loose.contains x&&!((recsOf p).map (·.name)).contains x&&!((litsOf p).map (·.1)).contains x&&!((clssOf p loose).map (·.name)).contains x)=true) (himp:importsNone p=true) :
  Glo prog w mg mb h where
 g:=T.g
 b:=T.b
 nolimit:=T.nolimit
 mods:=by
  obtain⟨mm,hm,_⟩:=(T.seer himp).mods;exact⟨mm,hm⟩
 fn:=fun f a b sc e=>by
  rw[hfn] at e;obtain⟨d,hd,h1,h2,h3,h4⟩:=Mx e;obtain⟨ad,o,pm,code,doc,g1,g2,g3,g4⟩:=T.fn d hd;subst h1;subst h2;subst h3;subst h4;exact⟨ad,o,pm,code,doc,g1,g2,g3,g4⟩
 const:=fun x d e=>by
  obtain⟨h1,h2⟩:=M1 e;have:=List.all_eq_true.mp hc x h1;rw[e] at this;obtain⟨h3,h4⟩:=M2 this;obtain⟨v,h5,h6⟩:=T.const x d h3;refine⟨v,h5,fun h' av=>?_⟩;have r:=h6 h';rcases h4 with ⟨i,rfl⟩ | ⟨s,rfl,hl⟩
  ·cases r;exact .int _ _
  ·cases r;exact .str _ _ hl
 blt:=fun x v e=>by
  obtain⟨h1,h2,h3⟩:=M0 e;have:=List.all_eq_true.mp hfree x h1;simp only[Bool.and_eq_true,Bool.not_eq_true',List.contains_eq_mem,decide_eq_false_iff_not] at this;obtain⟨⟨⟨⟨q1,q2⟩,q3⟩,q4⟩,q5⟩:=this;exact⟨T.free x q1 q2 q3 q4 q5,(T.builtins x h3).trans h2⟩
 cls:=fun c p e=>by
  obtain⟨C,bm,h1,h2,h3⟩:=X c p e;refine⟨C,bm,h1,?_,h3⟩;obtain⟨b,ini⟩:=p;cases ini with
  |none=>exact ClsP.ok h2
  |some ps=>exact ClsI.ok T.nolimit (h2 (hB c b ps e))
theorem M4{P:Params}{h:Heap}:∀ {vs:List Value} {ns:List Int},WellAll P h vs (ofPys (ns.map .int))→vs.length=ns.length∧∀ (i:Nat) (v:Value) (d:PyData),vs[i]?=some v→(ns.map PyData.int)[i]?=some d→∃ k t,v=.int k t∧d=.int k
 := by
 intro vs
 induction vs with
 |nil =>
  intro ns hw;cases ns with
  |nil=>exact⟨rfl,fun i v d e=>nomatch e⟩
  |cons n ns=>exact nomatch (show WellAll P h [] (WData.int n::ofPys (ns.map .int)) from hw)
 |cons v vs ih =>
  intro ns hw;cases ns with
  |nil=>exact nomatch (show WellAll P h (v::vs) [] from hw)
  |cons n ns =>
   cases (show WellAll P h (v::vs) (WData.int n::ofPys (ns.map .int)) from hw) with
   |cons h1 h2 =>
    obtain⟨g1,g2⟩:=ih h2;refine⟨congrArg Nat.succ g1,fun i u d e1 e2=>?_⟩;cases i with
    |zero =>
     obtain rfl:=si e1;obtain rfl:=si e2;cases h1;exact⟨_,_,rfl,rfl⟩
    |succ i=>exact g2 i u d e1 e2
theorem M5{prog:Program}{w:World}{mg mb:Str→Option Value}{s₁:Shared}{fa l:Addr}{ns:List Int}{N:Nat}{Q:Value→Shared→Prop}{E:Value→Shared→Prop}(GL:Glo prog w mg mb s₁.heap)(hmg:mg (Str.ofString "law")=some (.ref fa))
  (hw:Well w.params s₁.heap (.ref l) (ofPy (.list (ns.map .int)))) (hn:ns.length≤63) (hf:(dE (Str.ofString "law") prog.main.body).isSome=true) (hN:N≤400)
  (hrun:run prog.main.body N false (Str.ofString "law") [.fz (.list (ns.map .int))]=.ok (.fz (.bool true))) (hq:∀ s',Kp s₁ s'→Q (.bool true) s'):wpAny (model prog w) callerA (call (.ref fa) [.ref l]) Q E s₁:=by
 have hw:Well w.params s₁.heap (.ref l) (.list (ofPys (ns.map .int))):=hw;cases hw with
 | @list _ vs _ h1 h2 =>
  obtain⟨g1,g2⟩:=M4 h2;obtain⟨mm,hm⟩:=GL.mods;have hne:¬ l=sysModules:=fun e=>by
   obtain⟨o,es,ep,e1,e2,_⟩:=hm;rw[← e,h1] at e1;obtain rfl:=si e1;cases e2
  have rep:Rep prog w s₁.heap (fun b=>b=sysModules) (.ref l) (.list (ns.map .int)):=by
   refine .list hne ⟨_,h1⟩ (by simp[g1]) ?_ fun i v d e1 e2=>?_
   ·have:sizeLine=16777216:=rfl;exact Dl hn g1 this
   ·obtain⟨k,t,rfl,rfl⟩:=g2 i v d e1 e2;exact .int k t
  have room:Room N false [] callerA:=by
   refine⟨?_,?_,fun _=>rfl,rfl,rfl⟩
   ·have:callerA.depth+400+1 < recursionLimit:=by decide
    exact Dm hN this
   ·have:callerA.units+16*400+300 < cLine:=by decide
    exact Dn hN this
  have G:Gnd prog w mg mb s₁.heap [] (fun b=>b=sysModules) s₁:=⟨GL,fun _ _ e=>e,trivial,fun b f=>(nomatch f),fun b hb=>by
   obtain⟨o,es,ep,e1,_⟩:=hm;exact⟨o,hb▸e1⟩,rfl⟩
  refine(y6 (prog:=prog) (w:=w) (mg:=mg) (mb:=mb) (base:=s₁.heap) N false).call (Str.ofString "law") [.fz (.list (ns.map .int))] fa hmg hf callerA [] s₁ (fun b=>b=sysModules) [.ref l] room G ⟨⟨rep,nofun⟩,trivial⟩ (k:=R.ok) (fin:=.ok (.fz (.bool true))) ⟨by rw[show(dO prog.main.body (run prog.main.body N false) false).call (Str.ofString "law") [.fz (.list (ns.map .int))]=_ from hrun];rfl,nofun⟩ (fun v s' u k r e=>?_) fun x v s' e _=>by cases e
  cases e;have:=Rep.bool_inv r;subst this;obtain⟨h,t,rfl,k1,_⟩:=k;exact hq _ ⟨h,t,rfl,fun b o e=>k1 b o (fun f=>nomatch f) e⟩
end Mine
namespace Mine
open PySem
noncomputable def nC(B:List Stmt)(f:Str):Scope:=match dE f B with | some (_,_,sc)=>sc | none=>⟨.function,[],false,false,[]⟩
noncomputable def aH(B:List Stmt)(f:Str):List Stmt:=match dE f B with | some (_,b,_)=>b | none=>[]
noncomputable def tv:Stmt→List Stmt×Expr
 | .If t b _ _=>(b,t)
 | .For t _ b _ _=>(b,t)
 | .While t b _ _=>(b,t)
 | .Assign ts _ _=>([],ts.head?.getD (.Name Str.empty ⟨0,0,0,0⟩))
 |_=>([],.Name Str.empty ⟨0,0,0,0⟩)
noncomputable def M6:Stmt→List Stmt
 | .If _ _ o _=>o
 |_=>[]
noncomputable def cZ(l:List Stmt):List Stmt:=l.head?.elim [] M6
noncomputable def cR(l:List Stmt):List Stmt:=l.head?.elim [] fun s=>(tv s).1
noncomputable def bM(l:List Stmt):List Stmt:=l.head?.elim [] fun s=>(tv s).1
noncomputable def rC(l:List Stmt):Expr:=l.head?.elim (.Name Str.empty ⟨0,0,0,0⟩) fun s=>(tv s).2
noncomputable def cI(l:List Stmt):Expr:=l.head?.elim (.Name Str.empty ⟨0,0,0,0⟩) fun s=>(tv s).2
noncomputable def stm(B:List Stmt)(f:Str)(n k:Nat):List Stmt→aA→KN→KR→R V :=
 blk (evS (evE (dO B (run B n false) false) cV (nC B f)) (evE (dO B (run B n true) true) cV (nC B f)) cV (dO B (run B n false) false) (nC B f) k)
noncomputable def aB(op:Operator)(a b:R V):R V:=rb a fun a=>rb b fun b=>ofP (aC op (dOf a) (dOf b))
noncomputable def unS(op:UnaryOp)(a:R V):R V:=rb a fun v=>ofP (eH op v)
noncomputable def a9(a b:R V):R V:=rb a fun v=>rb (ofP (cG v)) fun c=>if c then b else .ok v
noncomputable def orS(a b:R V):R V:=rb a fun v=>rb (ofP (cG v)) fun c=>if c then .ok v else b
noncomputable def d6(t a b:R V):R V:=rb (tst t) fun c=>if c then a else b
noncomputable def aD(a:R V)(op:CmpOp)(b:R V):R V:=rb a fun a=>aV (rb b fun v=>ofP (cmp op (dOf a) (dOf v)))
noncomputable def c7(a:R V)(op:CmpOp)(b:R V)(op':CmpOp)(c:R V):R V:=rb a fun a=>aV (rb b fun v=>rb (ofP (cmp op (dOf a) (dOf v))) fun t=>if t then (rb c fun w=>ofP (cmp op' (dOf v) (dOf w))) else .ok false)
noncomputable def dF:List (R V)→R (List V)
 | []=>.ok []
 |e::r=>rb e fun v=>rb (dF r) fun vs=>.ok (v.clear::vs)
noncomputable def cS(l:List (R V)):R V:=rb (dF l) fun l=>if l.length≤aI then .ok (.own (.list (bJ l))) else .no
noncomputable def aN(l:List (R V)):R V:=rb (dF l) fun l=>if l.length≤aI then .ok (.fz (.tuple (bJ l))) else .no
noncomputable def rD:List (R V×R V)→R (List (PyData×PyData))
 | []=>.ok []
 |p::r=>rb p.1 fun k=>rb p.2 fun v=>rb (rD r) fun r=>.ok ((dOf k,dOf v)::r)
noncomputable def fS(l:List (R V×R V)):R V:=rb (rD l) fun l=>ofP (jJ l)
noncomputable def aJ(a:R PyData)(i:R V):R V:=rb a fun a=>rb i fun i=>ofP (getItem a (dOf i))
noncomputable def nD:Option (R V)→R (Option Int)
 |none=>.ok none
 |some e=>rb e fun v=>ofP (toI v)
noncomputable def aX(a:R PyData)(lo hi:Option (R V)):R V:=rb a fun a=>rb (nD lo) fun lo=>rb (nD hi) fun hi=>ofP (gW a lo hi)
noncomputable def bH(m:Str)(o:R V)(as:List (R V)):R V:=rb o fun o=>if mOk m (dOf o) then rb (dF as) fun as=>ofP (dK (dOf o) (bJ as)) else .no
noncomputable def fT(t:Str)(a:R V):R V:=rb a fun v=>ofP (lQ t (dOf v))
noncomputable def aK(f:PyData→P V)(a:R V):R V:=rb a fun v=>ofP (f (dOf v))
noncomputable def j5(as:List (R V)):R V:=rb (dF as) fun vs=>ofP (lP vs)
noncomputable def aG(f:List V→R V)(as:List (R V)):R V:=rb (dF as) fun vs=>f vs
noncomputable def aO(it:R (List PyData))(t:PyData→R Bool)(e:PyData→R V):R V:=rb (rb it fun l=>aR t e l) fun r=>ofP (own (.list r))
noncomputable def plI(e:R V):R (List PyData):=rb e fun v=>ofP (items (dOf v))
noncomputable def rgI(e:R V):R (List PyData):=rb e fun v=>ofP ((f9 v).bind lG)
noncomputable def enI(e:R V):R (List PyData):=rb e fun v=>ofP ((lB (dOf v)).bind fun l=>.ok (cD 0 l))
noncomputable def zA(B:List Stmt)(f:Str)(n:Nat)(e:Expr)(σ:aA):R Bool:=tst (evE (dO B (run B n false) false) cV (nC B f) σ e)
noncomputable def pr2{α:Type}(d:PyData)(k:PyData→PyData→R α):R α:=match two d with
 |some q=>k q.1 q.2
 |none=>.no
noncomputable def M7(B:List Stmt)(c:Str)(a:R V)(kr:V→R V):R V:=match a with
 | .no=>.no
 | .ok v=>kr v
 | .exc y=>match eJ B y.cls c with
  |some true=>.no
  |_=>.no
noncomputable def zpI(as:List (R V)):R (List PyData):=rb (dF as) fun vs=>ofP (u8 vs)
noncomputable def rvI(e:R V):R (List PyData):=rb e fun v=>ofP (u6 (dOf v))
noncomputable def c8(v:V):R PyData:=match (match v with | .own d=>some d | _=>none) with
 |some d=>.ok d
 |none=>rb (ofP (rdv v)) fun v=>.ok (dOf v)
noncomputable def bQ(v:V):R V:=match (match v with | .ex d=>some d | _=>none) with
 |some x=>.ok (.ex x)
 |none=>ofP (rdv v)
noncomputable def d8(e:R V):R PyData:=rb e fun v=>.ok (dOf v)
noncomputable def dP(v:V)(kr:V→R V):R V:=match (match v with | .own d=>some d | _=>none) with
 |some d=>kr (.own d)
 |none=>rb (ofP (rdv v)) kr
noncomputable def ifS(t:R V)(a b:R V):R V:=rb (tst t) fun c=>if c then a else b
noncomputable def cN(x:R V)(X:R PyData)(I:R V)(k:PyData→R V):R V:=rb x fun v=>rb X fun o=>rb I fun iv=>rb (ofP (setItem o (dOf iv) (dOf v))) k
noncomputable def j6(X:R PyData)(m:Str)(as:List (R V))(k:PyData→R V):R V:=rb X fun o=>if hV m o then rb (dF as) fun as'=>rb (ofP (lV m o (bJ as'))) k else .no
noncomputable def rE(ps:List Str)(c:Str)(as:List (R V)):R V:=rb (dF as) fun vs=>if ps.length=vs.length then .exc ⟨c,ps.zip (bJ vs)⟩ else .no
noncomputable def eA(c:Str)(as:List (R V)):R V:=rb (dF as) fun vs=>if vs.length=1 then .exc ⟨c,[]⟩ else .no
noncomputable def Wg(B:List Stmt)(c:Str)(a h:R V)(kr:V→R V):R V:=match a with
 | .no=>.no
 | .ok v=>kr v
 | .exc y=>match eJ B y.cls c with
  |some true=>rb (nx h) kr
  |_=>.no
noncomputable def Wh(B:List Stmt)(c:Str)(a:R V)(h:X→R V)(kr:V→R V):R V:=match a with
 | .no=>.no
 | .ok v=>kr v
 | .exc y=>match eJ B y.cls c with
  |some true=>rb (nx (h y)) kr
  |_=>.no
noncomputable def Wi(B:List Stmt)(x:X)(m:Str):R V:=ofP ((ofO ((bE x.cls B).map (·.2))).bind fun i=>(ofO i).bind fun ps=>if ps.contains m=true then (ofO (jR x.fields m)).bind fun d=>.ok (.fz d) else .no)
end Mine
namespace Mine
open PySem
noncomputable def BB:List Stmt:=PySem.Challenge.rw_uf010037_12.prog.main.body
end Mine
namespace Mine
open PySem
noncomputable abbrev so(x:String):Str:=Str.ofString x
noncomputable abbrev ζ(d:PyData):Option V:=some (.fz d)
noncomputable abbrev rn(n:Nat)(f:String)(vs:List V):R V:=run BB n false (Str.ofString f) vs
end Mine
namespace Mine
open PySem
variable (n:Nat) (a1 a2 a3 a4 a5 a6 a7 x1 x2 x3 x4 x5 x6 x7 x8 x9 x10 x11 x12 x13 x14 x15 x16 x17 x18 x19 d0 d1 d2 d3 d4 d5:PyData) (w1 w2 w3 w4 w5 w6 w7 w8 w9 w10 w11 w12 w13 w14 w15 w16 w17 w18 w19:V) (o1 o2 o3 o4 o5 o6 o7 o8 o9 o10 o11 o12 o13 o14 o15 o16 o17 o18 o19 p0 p1 p2 p3 p4 p5 p6 p7 p8 p9 p10 p11 p12 p13 p14 p15 p16 p17 p18 p19:Option V) (kn:KN) (kr:KR)
theorem M8:rn (n+1) "is_name" [.fz a1]=(ifS (orS (unS .Not (.ok (.fz (.bool (fF a1))))) (unS .Not (c7 (.ok (.fz (.int 1))) .LtE (ofP (aU a1)) .LtE (.ok (.fz (.int 8)))))) (R.ok (.fz (.bool false))) (rb (aK bS (aO (ofP (items a1)) (fun d1=>(.ok true)) (fun d1=>(aV (ofP (cmp .In d1 (.str (so "abcdefghijklmnopqrstuvwxyz")))))))) R.ok)):=by kernel_rfl
theorem M9:rn (n+1) "is_whole" [.fz a1]=(rb (a9 (.ok (.fz (.bool (eF a1)))) (unS .Not (.ok (.fz (.bool (eQ a1)))))) R.ok):=by kernel_rfl
theorem Na:rn (n+1) "is_beside" [.fz a1]=(ifS (orS (unS .Not (.ok (.fz (.bool (dW a1))))) (unS .Not (c7 (.ok (.fz (.int 1))) .LtE (ofP (aU a1)) .LtE (.ok (.fz (.int 6)))))) (R.ok (.fz (.bool false))) (ifS (unS .Not (aK bS (aO (ofP (items a1)) (fun d1=>(.ok true)) (fun d1=>(rn n "is_row" [.fz d1]))))) (R.ok (.fz (.bool false))) (rb (aO (ofP (items a1)) (fun d2=>(.ok true)) (fun d2=>(ofP (getItem d2 (.int 0))))) fun v3=>(rb (aO (ofP (items a1)) (fun d4=>(.ok true)) (fun d4=>(ofP (getItem d4 (.int 1))))) fun v5=>(rb (a9 (aD (aK dL (ofP (rdv (V.clear v3)))) .Eq (ofP (aU a1))) (aD (aK dL (ofP (rdv (V.clear v5)))) .Eq (ofP (aU a1)))) R.ok))))):=by kernel_rfl
theorem Nb:rn (n+1) "are_fields" [.fz a1]=(ifS (orS (unS .Not (.ok (.fz (.bool (dW a1))))) (unS .Not (c7 (.ok (.fz (.int 1))) .LtE (ofP (aU a1)) .LtE (.ok (.fz (.int 6)))))) (R.ok (.fz (.bool false))) (rb (a9 (aK bS (aO (ofP (items a1)) (fun d1=>(.ok true)) (fun d1=>(rn n "is_name" [.fz d1])))) (aD (aK dL (.ok (.fz a1))) .Eq (ofP (aU a1)))) R.ok)):=by kernel_rfl
theorem Nc:rn (n+1) "are_two_names" [.fz a1,.fz a2]=(rb (a9 (rn n "is_name" [.fz a1]) (a9 (rn n "is_name" [.fz a2]) (aV (ofP (cmp .NotEq a1 a2))))) R.ok):=by kernel_rfl
theorem Nd:rn (n+1) "is_least" [.fz a1]=(rb (a9 (rn n "is_whole" [.fz a1]) (aD (ofP (oU a1)) .Lt (ofP (aC .Pow (.int 10) (.int 30))))) R.ok):=by kernel_rfl
theorem Ne:rn (n+1) "need_view" [.fz a1]=(ifS (unS .Not (rn n "is_view" [.fz a1])) (eA (so "BadView") [(.ok (.fz (.str (so "no view"))))]) (R.ok (.fz .none))):=by kernel_rfl
theorem Wj:rn (n+1) "note_of" [.fz a1]=(rb (ofP (getItem a1 (.int 0))) fun v1=>(ifS (aD (ofP (rdv (V.clear v1))) .Eq (.ok (.fz (.str (so "beside"))))) (rb (aO (plI (ofP (getItem a1 (.int 1)))) (fun d2=>(.ok true)) (fun d2=>(aB .Add (aB .Add (aB .Add (aB .Add (aB .Add (aB .Add (.ok (.fz (.str (so "(")))) (ofP (getItem d2 (.int 0)))) (.ok (.fz (.str (so " "))))) (ofP (getItem d2 (.int 1)))) (.ok (.fz (.str (so " "))))) (aG (rn n "note_of") [(ofP (getItem d2 (.int 2)))])) (.ok (.fz (.str (so ")"))))))) fun v3=>(rb (aB .Add (aB .Add (.ok (.fz (.str (so "(beside ")))) (bH (so "join") (.ok (.fz (.str (so " ")))) [(ofP (rdv (V.clear v3)))])) (.ok (.fz (.str (so ")"))))) R.ok)) (ifS (aD (ofP (rdv (V.clear (V.clear v1)))) .Eq (.ok (.fz (.str (so "join"))))) (rb (aB .Add (aB .Add (aB .Add (aB .Add (aB .Add (aB .Add (.ok (.fz (.str (so "(join ")))) (ofP (getItem a1 (.int 1)))) (.ok (.fz (.str (so " "))))) (ofP (getItem a1 (.int 2)))) (.ok (.fz (.str (so " ("))))) (bH (so "join") (.ok (.fz (.str (so " ")))) [(ofP (getItem a1 (.int 3)))])) (.ok (.fz (.str (so "))"))))) R.ok) (ifS (orS (aD (ofP (rdv (V.clear (V.clear (V.clear v1))))) .Eq (.ok (.fz (.str (so "each"))))) (aD (ofP (rdv (V.clear (V.clear (V.clear v1))))) .Eq (.ok (.fz (.str (so "then")))))) (rb (aB .Add (aB .Add (aB .Add (aB .Add (.ok (.fz (.str (so "(")))) (ofP (rdv (V.clear (V.clear (V.clear (V.clear v1))))))) (.ok (.fz (.str (so " "))))) (bH (so "join") (.ok (.fz (.str (so " ")))) [(aO (plI (aX (.ok a1) (some (.ok (.fz (.int 1)))) none)) (fun d4=>(.ok true)) (fun d4=>(rn n "note_of" [.fz d4])))])) (.ok (.fz (.str (so ")"))))) R.ok) (rb (aB .Add (aB .Add (.ok (.fz (.str (so "(")))) (bH (so "join") (.ok (.fz (.str (so " ")))) [(aO (ofP (items a1)) (fun d5=>(.ok true)) (fun d5=>(ofP (eR d5))))])) (.ok (.fz (.str (so ")"))))) R.ok))))):=by kernel_rfl
theorem Nf:rn (n+1) "written" [.fz a1]=(rb (rn n "need_view" [.fz a1]) fun _=>(rb (rn n "note_of" [.fz a1]) R.ok)):=by kernel_rfl
noncomputable def b9(o0 o1 o2 o3 o4:Option V):aA:=[((so "text"),o0),((so "at"),o1),((so "end"),o2),((so "item"),o3),((so "items"),o4)]
noncomputable def nE(n:Nat)(σ:aA)(kn:KN)(kr:KR):R V:=stm BB (so "item_at") n 22 (bM (List.drop 1 (cR (aH BB (so "item_at"))))) σ kn kr
noncomputable def gJ(n:Nat)(σ:aA):R Bool:=zA BB (so "item_at") n (cI (List.drop 1 (cR (aH BB (so "item_at"))))) σ
noncomputable def zB(n:Nat)(σ:aA)(kn:KN)(kr:KR):R V:=stm BB (so "item_at") n 23 (List.drop 2 (cR (aH BB (so "item_at")))) σ kn kr
noncomputable def zC:Expr:=rC (List.drop 1 (aH BB (so "item_at")))
noncomputable def zD(n:Nat)(σ:aA)(kn:KN)(kr:KR):R V:=stm BB (so "item_at") n 24 (List.drop 2 (aH BB (so "item_at"))) σ kn kr
theorem zE:rn (n+1) "item_at" [.fz a1,.fz a2]=(ifS (aD (aX (.ok a1) (some (.ok (.fz a2))) (some (ofP (aC .Add a2 (.int 1))))) .NotEq (.ok (.fz (.str (so "("))))) (dM (gJ n) (nE n) fN (b9 (ζ a1) (ζ a2) (ζ a2) none none) (fun σ=>zB n σ (fun σ=>stm BB (so "item_at") n 24 (List.drop 1 (aH BB (so "item_at"))) σ (fun _=>R.ok (.fz .none)) R.ok) R.ok) R.ok) (rb (aG (rn n "item_at") [(.ok (.fz a1)),(ofP (aC .Add a2 (.int 1)))]) fun v1=>rb (ofP (aS zC (dOf v1) (b9 (ζ a1) (ζ a2) none none none))) fun σ=>zD n σ (fun _=>R.ok (.fz .none)) R.ok)):=by kernel_rfl
theorem zF:gJ n (b9 (ζ x1) (ζ x2) (some w3) none none)=tst (a9 (aD (ofP (rdv w3)) .Lt (ofP (aU x1))) (aD (aJ (.ok x1) (ofP (rdv w3))) .NotIn (.ok (.fz (.str (so " ()")))))):=by kernel_rfl
theorem Ng:nE n (b9 (ζ x1) (ζ x2) (some w3) none none) kn kr=(rb (aB .Add (ofP (rdv (V.clear w3))) (.ok (.fz (.int 1)))) fun v1=>(kn (b9 (ζ x1) (ζ x2) (some v1) none none))):=by kernel_rfl
theorem Nh:zB n (b9 (ζ x1) (ζ x2) (some w3) none none) kn kr=(ifS (aD (ofP (rdv (V.clear w3))) .Eq (.ok (.fz x2))) (eA (so "BadText") [(.ok (.fz (.str (so "a word is wanted"))))]) (rb (aN [(aX (.ok x1) (some (.ok (.fz x2))) (some (ofP (rdv (V.clear (V.clear w3)))))),(ofP (rdv (V.clear (V.clear w3))))]) kr)):=by kernel_rfl
theorem Ni:aS zC (.tuple [d0,d1]) (b9 p0 p1 p2 p3 p4)=.ok (b9 p0 (ζ d1) p2 (ζ d0) p4):=by kernel_rfl
noncomputable def j7(n:Nat)(σ:aA)(kn:KN)(kr:KR):R V:=stm BB (so "item_at") n 23 (bM (List.drop 3 (aH BB (so "item_at")))) σ kn kr
noncomputable def fU(n:Nat)(σ:aA):R Bool:=zA BB (so "item_at") n (cI (List.drop 3 (aH BB (so "item_at")))) σ
noncomputable def rF(n:Nat)(σ:aA)(kn:KN)(kr:KR):R V:=stm BB (so "item_at") n 24 (List.drop 4 (aH BB (so "item_at"))) σ kn kr
theorem Nj:zD n (b9 (ζ x1) (ζ d1) none (ζ d0) none) kn kr=(rb (cS [(.ok (.fz d0))]) fun v1=>(dM (fU n) (j7 n) fN (b9 (ζ x1) (ζ d1) none (ζ d0) (some v1)) (fun σ=>rF n σ kn kr) kr)):=by kernel_rfl
theorem Nk:fU n (b9 (ζ x1) (some w2) none (some w4) (some w5))=tst (aD (aX (.ok x1) (some (ofP (rdv w2))) (some (aB .Add (ofP (rdv w2)) (.ok (.fz (.int 1)))))) .Eq (.ok (.fz (.str (so " "))))):=by kernel_rfl
noncomputable def zG:Expr:=rC (bM (List.drop 3 (aH BB (so "item_at"))))
noncomputable def zH(n:Nat)(σ:aA)(kn:KN)(kr:KR):R V:=stm BB (so "item_at") n 23 (List.drop 1 (bM (List.drop 3 (aH BB (so "item_at"))))) σ kn kr
theorem Nl:j7 n (b9 (ζ x1) (some w2) none (some w4) (some w5)) kn kr=(rb (aG (rn n "item_at") [(.ok (.fz x1)),(aB .Add (ofP (rdv (V.clear w2))) (.ok (.fz (.int 1))))]) fun v1=>rb (ofP (aS zG (dOf v1) (b9 (ζ x1) (some (V.clear w2)) none (some w4) (some w5)))) fun σ=>zH n σ kn kr):=by kernel_rfl
theorem Nm:rF n (b9 (ζ x1) (some w2) none (some w4) (some w5)) kn kr=(ifS (aD (aX (.ok x1) (some (ofP (rdv (V.clear w2)))) (some (aB .Add (ofP (rdv (V.clear w2))) (.ok (.fz (.int 1)))))) .NotEq (.ok (.fz (.str (so ")"))))) (eA (so "BadText") [(.ok (.fz (.str (so "a bracket is wanted"))))]) (rb (aN [(ofP (rdv (V.clear w5))),(aB .Add (ofP (rdv (V.clear (V.clear w2)))) (.ok (.fz (.int 1))))]) kr)):=by kernel_rfl
theorem Nn:aS zG (.tuple [d0,d1]) (b9 p0 p1 p2 p3 p4)=.ok (b9 p0 (ζ d1) p2 (ζ d0) p4):=by kernel_rfl
theorem No:zH n (b9 (ζ x1) (ζ d1) none (ζ d0) (some w5)) kn kr=(j6 (ofP (hU w5)) (so "append") [(.ok (.fz d0))] fun o1=>(kn (b9 (ζ x1) (ζ d1) none (ζ d0) (some (.own o1))))):=by kernel_rfl
theorem Np:rn (n+1) "number_of" [.fz a1]=(ifS (unS .Not (.ok (.fz (.bool (fF a1))))) (R.ok (.fz .none)) (ifS (aD (aX (.ok a1) none (some (.ok (.fz (.int 1))))) .Eq (.ok (.fz (.str (so "-"))))) (rb (aX (.ok a1) (some (.ok (.fz (.int 1)))) none) fun v1=>(ifS (orS (unS .Not (c7 (.ok (.fz (.int 1))) .LtE (aK aU (ofP (rdv (V.clear v1)))) .LtE (.ok (.fz (.int 30))))) (unS .Not (aK bS (aO (plI (ofP (rdv (V.clear v1)))) (fun d2=>(.ok true)) (fun d2=>(aV (ofP (cmp .In d2 (.str (so "0123456789")))))))))) (R.ok (.fz .none)) (ifS (a9 (aD (aJ (c8 (V.clear v1)) (.ok (.fz (.int 0)))) .Eq (.ok (.fz (.str (so "0"))))) (aV (ofP (cmp .NotEq a1 (.str (so "0")))))) (R.ok (.fz .none)) (rb (ofP (dX a1)) R.ok)))) (ifS (orS (unS .Not (c7 (.ok (.fz (.int 1))) .LtE (ofP (aU a1)) .LtE (.ok (.fz (.int 30))))) (unS .Not (aK bS (aO (ofP (items a1)) (fun d3=>(.ok true)) (fun d3=>(aV (ofP (cmp .In d3 (.str (so "0123456789")))))))))) (R.ok (.fz .none)) (ifS (a9 (aD (ofP (getItem a1 (.int 0))) .Eq (.ok (.fz (.str (so "0"))))) (aV (ofP (cmp .NotEq a1 (.str (so "0")))))) (R.ok (.fz .none)) (rb (ofP (dX a1)) R.ok))))):=by kernel_rfl
theorem Wk:rn (n+1) "row_in" [.fz a1]=(ifS (orS (unS .Not (.ok (.fz (.bool (lC a1))))) (aD (ofP (aU a1)) .NotEq (.ok (.fz (.int 3))))) (eA (so "BadText") [(.ok (.fz (.str (so "a row is wanted"))))]) (rb (aN [(ofP (getItem a1 (.int 0))),(ofP (getItem a1 (.int 1))),(aG (rn n "view_in") [(ofP (getItem a1 (.int 2)))])]) R.ok)):=by kernel_rfl
theorem Nq:rn (n+1) "view_in" [.fz a1]=(ifS (unS .Not (.ok (.fz (.bool (lC a1))))) (eA (so "BadText") [(.ok (.fz (.str (so "a view is wanted"))))]) (rb (ofP (getItem a1 (.int 0))) fun v1=>(ifS (aD (ofP (rdv (V.clear v1))) .Eq (.ok (.fz (.str (so "beside"))))) (rb (aN [(.ok (.fz (.str (so "beside")))),(aK cL (aO (plI (aX (.ok a1) (some (.ok (.fz (.int 1)))) none)) (fun d3=>(.ok true)) (fun d3=>(rn n "row_in" [.fz d3]))))]) R.ok) (ifS (orS (aD (ofP (rdv (V.clear (V.clear v1)))) .Eq (.ok (.fz (.str (so "each"))))) (aD (ofP (rdv (V.clear (V.clear v1)))) .Eq (.ok (.fz (.str (so "then")))))) (rb (aK cL (aB .Add (cS [(ofP (rdv (V.clear (V.clear (V.clear v1)))))]) (aO (plI (aX (.ok a1) (some (.ok (.fz (.int 1)))) none)) (fun d4=>(.ok true)) (fun d4=>(rn n "view_in" [.fz d4]))))) R.ok) (ifS (a9 (aD (ofP (rdv (V.clear (V.clear (V.clear v1))))) .Eq (.ok (.fz (.str (so "sift"))))) (aD (ofP (aU a1)) .Eq (.ok (.fz (.int 3))))) (rb (aN [(.ok (.fz (.str (so "sift")))),(ofP (getItem a1 (.int 1))),(aG (rn n "number_of") [(ofP (getItem a1 (.int 2)))])]) R.ok) (ifS (a9 (aD (ofP (rdv (V.clear (V.clear (V.clear (V.clear v1)))))) .Eq (.ok (.fz (.str (so "join"))))) (a9 (aD (ofP (aU a1)) .Eq (.ok (.fz (.int 4)))) (fT (so "list") (ofP (getItem a1 (.int 3)))))) (rb (aN [(.ok (.fz (.str (so "join")))),(ofP (getItem a1 (.int 1))),(ofP (getItem a1 (.int 2))),(aK cL (ofP (getItem a1 (.int 3))))]) R.ok) (rb (ofP (cL a1)) R.ok))))))):=by kernel_rfl
noncomputable def nF(o0 o1 o2 o3:Option V):aA:=[((so "text"),o0),((so "item"),o1),((so "at"),o2),((so "view"),o3)]
noncomputable def zI:Expr:=rC (List.drop 1 (aH BB (so "read")))
noncomputable def zJ(n:Nat)(σ:aA)(kn:KN)(kr:KR):R V:=stm BB (so "read") n 24 (List.drop 2 (aH BB (so "read"))) σ kn kr
theorem Nr:rn (n+1) "read" [.fz a1]=(ifS (unS .Not (.ok (.fz (.bool (fF a1))))) (eA (so "BadText") [(.ok (.fz (.str (so "a text is wanted"))))]) (rb (rn n "item_at" [.fz a1,.fz (.int 0)]) fun v1=>rb (ofP (aS zI (dOf v1) (nF (ζ a1) none none none))) fun σ=>zJ n σ (fun _=>R.ok (.fz .none)) R.ok)):=by kernel_rfl
theorem Nt:aS zI (.tuple [d0,d1]) (nF p0 p1 p2 p3)=.ok (nF p0 (ζ d0) (ζ d1) p3):=by kernel_rfl
theorem Nu:zJ n (nF (ζ x1) (ζ d0) (ζ d1) none) kn kr=(ifS (aD (.ok (.fz d1)) .NotEq (ofP (aU x1))) (eA (so "BadText") [(.ok (.fz (.str (so "more than a view"))))]) (rb (rn n "view_in" [.fz d0]) fun v1=>(ifS (unS .Not (aG (rn n "is_view") [(bQ (V.clear v1))])) (eA (so "BadText") [(.ok (.fz (.str (so "no view"))))]) (dP (V.clear v1) kr)))):=by kernel_rfl
theorem Nv:rn (n+1) "_law_cell_at" [.fz a1,.fz a2]=(ifS (aD (.ok (.fz a2)) .Lt (ofP (aU a1))) (rb (ofP (getItem a1 a2)) R.ok) (R.ok (.fz (.int 0)))):=by kernel_rfl
theorem Nw:rn (n+1) "_law_mixed" [.fz a1,.fz a2]=(rb (aB .Mod (aB .Add (aB .Add (aB .Mult (aG (rn n "_law_cell_at") [(.ok (.fz a1)),(aB .Add (.ok (.fz (.int 2))) (ofP (aC .Mod a2 (.int 24))))]) (.ok (.fz (.int 48271)))) (ofP (aC .Mult (.int 7919) a2))) (.ok (.fz (.int 12345)))) (.ok (.fz (.int 2147483647)))) R.ok):=by kernel_rfl
theorem Nx:rn (n+1) "_law_name" [.fz a1,.fz a2]=(rb (aB .Add (.ok (.fz (.int 1))) (ofP (aC .Mod a1 (.int 8)))) fun v1=>(rb (aO (rgI (.ok (.fz (.int 8)))) (fun d2=>(.ok true)) (fun d2=>(aJ (.ok (.str (so "abcdefghijklmnopqrstuvwxyz"))) (aB .Mod (aB .Add (ofP (aC .FloorDiv a1 (.int 8))) (ofP (aC .Mult (.int 5) d2))) (.ok (.fz (.int 26))))))) fun v3=>(ifS (aD (aB .Mod (ofP (aC .FloorDiv a1 (.int 1664))) (.ok (.fz (.int 3)))) .Eq (.ok (.fz (.int 1)))) (cN (aJ (.ok (.str (so "abcdefghijklmnopqrstuvwxyz"))) (aB .Mod (aB .Add (ofP (aC .FloorDiv a1 (.int 8))) (ofP (aC .FloorDiv a2 (.int 8)))) (.ok (.fz (.int 26))))) (ofP (hU v3)) (.ok (.fz (.int 0))) fun o4=>(rb (bH (so "join") (.ok (.fz (.str (so "")))) [(aX (.ok o4) none (some (aB .Add (.ok (.fz (.int 1))) (ofP (aC .Mod a2 (.int 8))))))]) R.ok)) (cN (aJ (.ok (.str (so "abcdefghijklmnopqrstuvwxyz"))) (aB .Mod (aB .Add (aB .Add (ofP (aC .FloorDiv a1 (.int 8))) (.ok (.fz (.int 7)))) (.ok (.fz a2))) (.ok (.fz (.int 26))))) (ofP (hU v3)) (aB .Mod (ofP (aC .FloorDiv a1 (.int 208))) (ofP (rdv v1))) fun o5=>(rb (bH (so "join") (.ok (.fz (.str (so "")))) [(aX (.ok o5) none (some (ofP (rdv (V.clear v1)))))]) R.ok))))):=by kernel_rfl
theorem Ny:rn (n+1) "_law_names" [.fz a1]=(rb (aO (rgI (.ok (.fz (.int 14)))) (fun d1=>(.ok true)) (fun d1=>(aG (rn n "_law_name") [(rn n "_law_cell_at" [.fz a1,.fz (.int 0)]),(.ok (.fz d1))]))) R.ok):=by kernel_rfl
theorem Nz:rn (n+1) "_law_number" [.fz a1]=(ifS (aD (ofP (aC .Mod a1 (.int 5))) .Eq (.ok (.fz (.int 4)))) (rb (aB .Add (aJ (d8 (cS [(ofP (aC .Pow (.int 10) (.int 20))),(unS .USub (ofP (aC .Pow (.int 10) (.int 20)))),(ofP (aC .Pow (.int 10) (.int 12))),(.ok (.fz (.int 0)))])) (aB .Mod (ofP (aC .FloorDiv a1 (.int 5))) (.ok (.fz (.int 4))))) (aB .Mod (ofP (aC .FloorDiv a1 (.int 20))) (.ok (.fz (.int 3))))) R.ok) (ifS (aD (ofP (aC .Mod a1 (.int 5))) .Eq (.ok (.fz (.int 3)))) (rb (aB .Sub (aB .Mod (aB .Mult (ofP (aC .FloorDiv a1 (.int 5))) (.ok (.fz (.int 48271)))) (.ok (.fz (.int 2000003)))) (.ok (.fz (.int 1000001)))) R.ok) (ifS (aD (ofP (aC .Mod a1 (.int 15))) .Eq (.ok (.fz (.int 2)))) (rb (aB .Mult (aK dX (aB .Mult (.ok (.fz (.str (so "37")))) (aB .Add (.ok (.fz (.int 1))) (aB .Mod (ofP (aC .FloorDiv a1 (.int 15))) (.ok (.fz (.int 14))))))) (aB .Sub (.ok (.fz (.int 1))) (aB .Mult (aB .Mod (ofP (aC .FloorDiv a1 (.int 210))) (.ok (.fz (.int 2)))) (.ok (.fz (.int 2)))))) R.ok) (rb (aB .Sub (aB .Mod (ofP (aC .FloorDiv a1 (.int 5))) (.ok (.fz (.int 9)))) (.ok (.fz (.int 4)))) R.ok)))):=by kernel_rfl
noncomputable def bZ(o0 o1 o2 o3 o4 o5 o6 o7 o8 o9:Option V):aA:=[((so "_law_script"),o0),((so "_law_k"),o1),((so "_law_names_here"),o2),((so "_law_fields"),o3),((so "_law_found"),o4),((so "_law_j"),o5),((so "_law_row"),o6),((so "_law_i"),o7),((so "_law_field"),o8),((so "_law_cell"),o9)]
noncomputable def nG(n:Nat)(σ:aA)(kn:KN)(kr:KR):R V:=stm BB (so "_law_table") n 23 (bM (List.drop 1 (aH BB (so "_law_table")))) σ kn kr
noncomputable def nH:Expr:=cI (List.drop 1 (aH BB (so "_law_table")))
noncomputable def zK(n:Nat)(σ:aA)(kn:KN)(kr:KR):R V:=stm BB (so "_law_table") n 24 (List.drop 2 (aH BB (so "_law_table"))) σ kn kr
theorem N0:rn (n+1) "_law_table" [.fz a1,.fz a2,.fz a3,.fz a4]=(rb (rgI (.ok (.fz (.int 4)))) fun l1=>aT (nG n) nH l1 (bZ (ζ a1) (ζ a2) (ζ a3) (ζ a4) (some (.own (.dict []))) none none none none none) (fun σ=>zK n σ (fun _=>R.ok (.fz .none)) R.ok) R.ok):=by kernel_rfl
theorem N1:aS nH d0 (bZ p0 p1 p2 p3 p4 p5 p6 p7 p8 p9)=.ok (bZ p0 p1 p2 p3 p4 (ζ d0) p6 p7 p8 p9):=by kernel_rfl
noncomputable def j8(n:Nat)(σ:aA)(kn:KN)(kr:KR):R V:=stm BB (so "_law_table") n 21 (bM (List.drop 1 (cR (bM (List.drop 1 (aH BB (so "_law_table"))))))) σ kn kr
noncomputable def j9:Expr:=cI (List.drop 1 (cR (bM (List.drop 1 (aH BB (so "_law_table"))))))
noncomputable def rG(n:Nat)(σ:aA)(kn:KN)(kr:KR):R V:=stm BB (so "_law_table") n 22 (List.drop 2 (cR (bM (List.drop 1 (aH BB (so "_law_table")))))) σ kn kr
theorem N2:nG n (bZ (ζ x1) (ζ x2) (ζ x3) (ζ x4) (some (.own x5)) (ζ d0) o7 o8 o9 o10) kn kr=(ifS (aD (aB .Mod (aG (rn n "_law_mixed") [(.ok (.fz x1)),(aB .Add (.ok (.fz x2)) (ofP (aC .Mult (.int 10) d0)))]) (.ok (.fz (.int 3)))) .Gt (.ok (.fz (.int 0)))) (rb (enI (.ok (.fz x4))) fun l1=>aT (j8 n) j9 l1 (bZ (ζ x1) (ζ x2) (ζ x3) (ζ x4) (some (.own x5)) (ζ d0) (some (.own (.dict []))) o8 o9 o10) (fun σ=>rG n σ (fun σ=>stm BB (so "_law_table") n 23 (List.drop 1 (bM (List.drop 1 (aH BB (so "_law_table"))))) σ kn kr) kr) kr) (kn (bZ (ζ x1) (ζ x2) (ζ x3) (ζ x4) (some (.own x5)) (ζ d0) o7 o8 o9 o10))):=by kernel_rfl
theorem N3:zK n (bZ (ζ x1) (ζ x2) (ζ x3) (ζ x4) (some (.own x5)) o6 o7 o8 o9 o10) kn kr=(kr (.own x5)):=by kernel_rfl
theorem N4:aS j9 (.tuple [d0,d1]) (bZ p0 p1 p2 p3 p4 p5 p6 p7 p8 p9)=.ok (bZ p0 p1 p2 p3 p4 p5 p6 (ζ d0) (ζ d1) p9):=by kernel_rfl
theorem N5:j8 n (bZ (ζ x1) (ζ x2) (ζ x3) (ζ x4) (some (.own x5)) (ζ x6) (some (.own x7)) (ζ d0) (ζ d1) o10) kn kr=(rb (aG (rn n "_law_mixed") [(.ok (.fz x1)),(aB .Add (aB .Add (aB .Add (.ok (.fz x2)) (ofP (aC .Mult (.int 10) x6))) (.ok (.fz d0))) (.ok (.fz (.int 1))))]) fun v1=>(ifS (aD (aB .Mod (ofP (rdv (V.clear v1))) (.ok (.fz (.int 4)))) .Gt (.ok (.fz (.int 0)))) (cN (aG (rn n "_law_number") [(aB .FloorDiv (ofP (rdv (V.clear (V.clear v1)))) (.ok (.fz (.int 4))))]) (.ok x7) (.ok (.fz d1)) fun o2=>(kn (bZ (ζ x1) (ζ x2) (ζ x3) (ζ x4) (some (.own x5)) (ζ x6) (some (.own o2)) (ζ d0) (ζ d1) (some (V.clear (V.clear v1)))))) (ifS (aD (aB .Mod (ofP (rdv (V.clear (V.clear v1)))) (.ok (.fz (.int 12)))) .Eq (.ok (.fz (.int 0)))) (cN (fS [((ofP (getItem x3 (.int 0))),(aB .Mod (aB .FloorDiv (ofP (rdv (V.clear (V.clear (V.clear v1))))) (.ok (.fz (.int 12)))) (.ok (.fz (.int 5)))))]) (.ok x7) (.ok (.fz d1)) fun o3=>(kn (bZ (ζ x1) (ζ x2) (ζ x3) (ζ x4) (some (.own x5)) (ζ x6) (some (.own o3)) (ζ d0) (ζ d1) (some (V.clear (V.clear (V.clear v1))))))) (kn (bZ (ζ x1) (ζ x2) (ζ x3) (ζ x4) (some (.own x5)) (ζ x6) (some (.own x7)) (ζ d0) (ζ d1) (some (V.clear (V.clear v1)))))))):=by kernel_rfl
theorem N6:rG n (bZ (ζ x1) (ζ x2) (ζ x3) (ζ x4) (some (.own x5)) (ζ x6) (some (.own x7)) o8 o9 o10) kn kr=(cN (.ok (.fz x7)) (.ok x5) (aJ (.ok x3) (ofP (aC .Add (.int 9) x6))) fun o1=>(kn (bZ (ζ x1) (ζ x2) (ζ x3) (ζ x4) (some (.own o1)) (ζ x6) (ζ x7) o8 o9 o10))):=by kernel_rfl
noncomputable def cT(o0 o1 o2 o3:Option V):aA:=[((so "_law_script"),o0),((so "_law_names_here"),o1),((so "_law_found"),o2),((so "_law_k"),o3)]
noncomputable def kA(n:Nat)(σ:aA)(kn:KN)(kr:KR):R V:=stm BB (so "_law_house") n 23 (bM (List.drop 5 (aH BB (so "_law_house")))) σ kn kr
noncomputable def kB:Expr:=cI (List.drop 5 (aH BB (so "_law_house")))
noncomputable def zL(n:Nat)(σ:aA)(kn:KN)(kr:KR):R V:=stm BB (so "_law_house") n 24 (List.drop 6 (aH BB (so "_law_house"))) σ kn kr
theorem N7:rn (n+1) "_law_house" [.fz a1,.fz a2]=(rb (fS [((ofP (getItem a2 (.int 0))),(aG (rn n "_law_number") [(rn n "_law_mixed" [.fz a1,.fz (.int 1)])]))]) fun v1=>(cN (fS [((ofP (getItem a2 (.int 5))),(aG (rn n "_law_number") [(rn n "_law_mixed" [.fz a1,.fz (.int 2)])])),((ofP (getItem a2 (.int 6))),(fS [((ofP (getItem a2 (.int 0))),(.ok (.fz (.int 3))))]))]) (ofP (hU v1)) (ofP (getItem a2 (.int 1))) fun o2=>(cN (aG (rn n "_law_table") [(.ok (.fz a1)),(.ok (.fz (.int 20))),(.ok (.fz a2)),(aX (.ok a2) (some (.ok (.fz (.int 5)))) (some (.ok (.fz (.int 7)))))]) (.ok o2) (ofP (getItem a2 (.int 2))) fun o3=>(cN (aG (rn n "_law_table") [(.ok (.fz a1)),(.ok (.fz (.int 70))),(.ok (.fz a2)),(aX (.ok a2) (some (.ok (.fz (.int 7)))) (some (.ok (.fz (.int 9)))))]) (.ok o3) (ofP (getItem a2 (.int 3))) fun o4=>(cN (fS [((ofP (getItem a2 (.int 2))),(aG (rn n "_law_table") [(.ok (.fz a1)),(.ok (.fz (.int 120))),(.ok (.fz a2)),(aX (.ok a2) (some (.ok (.fz (.int 5)))) (some (.ok (.fz (.int 9)))))])),((ofP (getItem a2 (.int 0))),(.ok (.fz (.int 1))))]) (.ok o4) (ofP (getItem a2 (.int 4))) fun o5=>(rb (rgI (.ok (.fz (.int 5)))) fun l6=>aT (kA n) kB l6 (cT (ζ a1) (ζ a2) (some (.own o5)) none) (fun σ=>zL n σ (fun _=>R.ok (.fz .none)) R.ok) R.ok)))))):=by kernel_rfl
theorem N8:aS kB d0 (cT p0 p1 p2 p3)=.ok (cT p0 p1 p2 (ζ d0)):=by kernel_rfl
theorem N9:kA n (cT (ζ x1) (ζ x2) (some (.own x3)) (ζ d0)) kn kr=(ifS (aD (aB .Mod (aG (rn n "_law_mixed") [(.ok (.fz x1)),(ofP (aC .Add (.int 200) d0))]) (.ok (.fz (.int 9)))) .Eq (.ok (.fz (.int 0)))) (j6 (.ok x3) (so "pop") [(ofP (getItem x2 d0))] fun o1=>(kn (cT (ζ x1) (ζ x2) (some (.own o1)) (ζ d0)))) (kn (cT (ζ x1) (ζ x2) (some (.own x3)) (ζ d0)))):=by kernel_rfl
theorem Oa:zL n (cT (ζ x1) (ζ x2) (some (.own x3)) o4) kn kr=(rb (aJ (d8 (cS [(.ok (.fz x3)),(bH (so "get") (.ok (.fz x3)) [(ofP (getItem x2 (.int 2))),(.ok (.own (.dict [])))]),(bH (so "get") (.ok (.fz x3)) [(ofP (getItem x2 (.int 4))),(.ok (.fz (.int 5)))])])) (aB .Mod (aB .Mod (rn n "_law_cell_at" [.fz x1,.fz (.int 1)]) (.ok (.fz (.int 5)))) (.ok (.fz (.int 3))))) kr):=by kernel_rfl
theorem nI:rn (n+1) "_law_copy" [.fz a1]=(ifS (.ok (.fz (.bool (dU a1)))) (rb (aK b8 (aO (ofP (items a1)) (fun d1=>(.ok true)) (fun d1=>(aN [(.ok (.fz d1)),(aG (rn n "_law_copy") [(ofP (getItem a1 d1))])])))) R.ok) (R.ok (.fz a1))):=by kernel_rfl
theorem Wl:rn (n+1) "_law_same" [.fz a1,.fz a2]=(ifS (.ok (.fz (.bool (dU a2)))) (ifS (orS (unS .Not (.ok (.fz (.bool (dU a1))))) (aD (aK fG (ofP (fH a1))) .NotEq (aK fG (ofP (fH a2))))) (R.ok (.fz (.bool false))) (rb (aK bS (aO (ofP (items a2)) (fun d1=>(.ok true)) (fun d1=>(aG (rn n "_law_same") [(ofP (getItem a1 d1)),(ofP (getItem a2 d1))])))) R.ok)) (rb (a9 (.ok (.fz (.bool (eF a1)))) (a9 (unS .Not (.ok (.fz (.bool (eQ a1))))) (aV (ofP (cmp .Eq a1 a2))))) R.ok)):=by kernel_rfl
theorem zM:rn (n+1) "_law_is_table" [.fz a1]=(ifS (unS .Not (.ok (.fz (.bool (dU a1))))) (R.ok (.fz (.bool false))) (rb (aD (aO (ofP (items a1)) (fun d1=>(tst (unS .Not (fT (so "dict") (ofP (getItem a1 d1)))))) (fun d1=>(.ok (.fz d1)))) .Eq (.ok (.own (.list [])))) R.ok)):=by kernel_rfl
theorem Ob:rn (n+1) "_law_high" [.fz a1,.fz a2,.fz a3]=(rb (a9 (fT (so "int") (bH (so "get") (.ok (.fz a1)) [(.ok (.fz a2))])) (aD (ofP (getItem a1 a2)) .GtE (.ok (.fz a3)))) R.ok):=by kernel_rfl
noncomputable def b7(o0 o1 o2 o3 o4 o5:Option V):aA:=[((so "_law_view_here"),o0),((so "_law_tree"),o1),((so "_law_one"),o2),((so "_law_other"),o3),((so "_law_key"),o4),((so "_law_found"),o5)]
noncomputable def nJ(n:Nat)(σ:aA)(kn:KN)(kr:KR):R V:=stm BB (so "_law_joins") n 23 (bM (List.drop 3 (aH BB (so "_law_joins")))) σ kn kr
noncomputable def nK:Expr:=cI (List.drop 3 (aH BB (so "_law_joins")))
noncomputable def rH(n:Nat)(σ:aA)(kn:KN)(kr:KR):R V:=stm BB (so "_law_joins") n 24 (List.drop 4 (aH BB (so "_law_joins"))) σ kn kr
theorem Oc:rn (n+1) "_law_joins" [.fz a1,.fz a2]=(rb (bH (so "get") (.ok (.fz a2)) [(ofP (getItem a1 (.int 1)))]) fun v1=>(rb (bH (so "get") (.ok (.fz a2)) [(ofP (getItem a1 (.int 2)))]) fun v2=>(ifS (orS (unS .Not (aG (rn n "_law_is_table") [(bQ (V.clear v1))])) (unS .Not (aG (rn n "_law_is_table") [(bQ (V.clear v2))]))) (R.ok (.fz .none)) (rb (plI (ofP (rdv (V.clear (V.clear v1))))) fun l3=>aT (nJ n) nK l3 (b7 (ζ a1) (ζ a2) (some (V.clear (V.clear v1))) (some (V.clear v2)) none none) (fun σ=>rH n σ (fun _=>R.ok (.fz .none)) R.ok) R.ok)))):=by kernel_rfl
theorem Od:aS nK d0 (b7 p0 p1 p2 p3 p4 p5)=.ok (b7 p0 p1 p2 p3 (ζ d0) p5):=by kernel_rfl
theorem Oe:nJ n (b7 (ζ x1) (ζ x2) (some w3) (some w4) (ζ d0) none) kn kr=(ifS (aD (aO (plI (aJ (c8 w3) (.ok (.fz d0)))) (fun d1=>(tst (aD (.ok (.fz d1)) .NotIn (ofP (getItem x1 (.int 3)))))) (fun d1=>(.ok (.fz d1)))) .NotEq (.ok (.own (.list [])))) (kr (.fz .none)) (kn (b7 (ζ x1) (ζ x2) (some w3) (some w4) (ζ d0) none))):=by kernel_rfl
noncomputable def nL(n:Nat)(σ:aA)(kn:KN)(kr:KR):R V:=stm BB (so "_law_joins") n 23 (bM (List.drop 4 (aH BB (so "_law_joins")))) σ kn kr
noncomputable def nN:Expr:=cI (List.drop 4 (aH BB (so "_law_joins")))
noncomputable def rI(n:Nat)(σ:aA)(kn:KN)(kr:KR):R V:=stm BB (so "_law_joins") n 24 (List.drop 5 (aH BB (so "_law_joins"))) σ kn kr
theorem Of:rH n (b7 (ζ x1) (ζ x2) (some w3) (some w4) o5 none) kn kr=(rb (plI (ofP (rdv (V.clear w4)))) fun l1=>aT (nL n) nN l1 (b7 (ζ x1) (ζ x2) (some w3) (some (V.clear w4)) o5 none) (fun σ=>rI n σ kn kr) kr):=by kernel_rfl
theorem Og:aS nN d0 (b7 p0 p1 p2 p3 p4 p5)=.ok (b7 p0 p1 p2 p3 (ζ d0) p5):=by kernel_rfl
theorem Oh:nL n (b7 (ζ x1) (ζ x2) (some w3) (some w4) (ζ d0) none) kn kr=(ifS (aD (aO (plI (aJ (c8 w4) (.ok (.fz d0)))) (fun d1=>(tst (aD (.ok (.fz d1)) .In (ofP (getItem x1 (.int 3)))))) (fun d1=>(.ok (.fz d1)))) .NotEq (.ok (.own (.list [])))) (kr (.fz .none)) (kn (b7 (ζ x1) (ζ x2) (some w3) (some w4) (ζ d0) none))):=by kernel_rfl
noncomputable def kC(n:Nat)(σ:aA)(kn:KN)(kr:KR):R V:=stm BB (so "_law_joins") n 23 (bM (List.drop 6 (aH BB (so "_law_joins")))) σ kn kr
noncomputable def kD:Expr:=cI (List.drop 6 (aH BB (so "_law_joins")))
noncomputable def rJ(n:Nat)(σ:aA)(kn:KN)(kr:KR):R V:=stm BB (so "_law_joins") n 24 (List.drop 7 (aH BB (so "_law_joins"))) σ kn kr
theorem Oi:rI n (b7 (ζ x1) (ζ x2) (some w3) (some w4) o5 none) kn kr=(rb (plI (ofP (rdv (V.clear w3)))) fun l1=>aT (kC n) kD l1 (b7 (ζ x1) (ζ x2) (some (V.clear w3)) (some w4) o5 (some (.own (.dict [])))) (fun σ=>rJ n σ kn kr) kr):=by kernel_rfl
theorem Oj:aS kD d0 (b7 p0 p1 p2 p3 p4 p5)=.ok (b7 p0 p1 p2 p3 (ζ d0) p5):=by kernel_rfl
theorem Ok:kC n (b7 (ζ x1) (ζ x2) (some w3) (some w4) (ζ d0) (some (.own x6))) kn kr=(ifS (aD (.ok (.fz d0)) .In (ofP (rdv (V.clear w4)))) (cN (aK b8 (aB .Add (aK eG (aJ (c8 w3) (.ok (.fz d0)))) (aK eG (aJ (c8 (V.clear w4)) (.ok (.fz d0)))))) (.ok x6) (.ok (.fz d0)) fun o1=>(kn (b7 (ζ x1) (ζ x2) (some w3) (some (V.clear w4)) (ζ d0) (some (.own o1))))) (kn (b7 (ζ x1) (ζ x2) (some w3) (some (V.clear w4)) (ζ d0) (some (.own x6))))):=by kernel_rfl
theorem Ol:rJ n (b7 (ζ x1) (ζ x2) (some w3) (some w4) o5 (some (.own x6))) kn kr=(rb (rn n "_law_copy" [.fz x6]) kr):=by kernel_rfl
theorem Om:rn (n+1) "_law_several" [.fz a1]=(ifS (aD (aO (ofP (items a1)) (fun d1=>(tst (aD (ofP (getItem d1 (.int 1))) .Is (.ok (.fz .none))))) (fun d1=>(.ok (.fz d1)))) .NotEq (.ok (.own (.list [])))) (R.ok (.fz .none)) (rb (ofP (b8 a1)) R.ok)):=by kernel_rfl
theorem On:rn (n+1) "_law_small" [.fz a1,.fz a2,.fz a3]=(ifS (orS (unS .Not (.ok (.fz (.bool (dU a2))))) (aD (ofP (aC .Mod a1 (.int 4))) .Eq (.ok (.fz (.int 0))))) (R.ok (.fz (.tuple [(.str (so "whole"))]))) (rb (aK fG (ofP (fH a2))) fun v1=>(ifS (a9 (aD (ofP (rdv (V.clear v1))) .NotEq (.ok (.own (.list [])))) (aD (ofP (aC .Mod a1 (.int 4))) .Lt (.ok (.fz (.int 3))))) (ifS (aD (ofP (aC .Mod a1 (.int 4))) .Eq (.ok (.fz (.int 1)))) (rb (aN [(.ok (.fz (.str (so "pick")))),(aJ (c8 (V.clear (V.clear v1))) (aB .Mod (ofP (aC .FloorDiv a1 (.int 4))) (aK aU (ofP (rdv (V.clear (V.clear v1)))))))]) R.ok) (rb (aJ (.ok a3) (aB .Mod (ofP (aC .FloorDiv a1 (.int 16))) (.ok (.fz (.int 14))))) fun v2=>(ifS (aD (ofP (rdv (V.clear v2))) .NotIn (.ok (.fz a2))) (rb (aN [(.ok (.fz (.str (so "call")))),(aJ (c8 (V.clear (V.clear v1))) (aB .Mod (ofP (aC .FloorDiv a1 (.int 4))) (aK aU (ofP (rdv (V.clear (V.clear v1))))))),(ofP (rdv (V.clear (V.clear v2))))]) R.ok) (ifS (rn n "_law_is_table" [.fz a2]) (rb (aN [(.ok (.fz (.str (so "sift")))),(aJ (.ok a3) (aB .Add (.ok (.fz (.int 5))) (aB .Mod (ofP (aC .FloorDiv a1 (.int 4))) (.ok (.fz (.int 4)))))),(aB .Sub (aB .Mod (ofP (aC .FloorDiv a1 (.int 16))) (.ok (.fz (.int 7)))) (.ok (.fz (.int 3))))]) R.ok) (R.ok (.fz (.tuple [(.str (so "whole"))]))))))) (ifS (rn n "_law_is_table" [.fz a2]) (rb (aN [(.ok (.fz (.str (so "sift")))),(aJ (.ok a3) (aB .Add (.ok (.fz (.int 5))) (aB .Mod (ofP (aC .FloorDiv a1 (.int 4))) (.ok (.fz (.int 4)))))),(aB .Sub (aB .Mod (ofP (aC .FloorDiv a1 (.int 16))) (.ok (.fz (.int 7)))) (.ok (.fz (.int 3))))]) R.ok) (R.ok (.fz (.tuple [(.str (so "whole"))]))))))):=by kernel_rfl
noncomputable def gK(o0 o1 o2 o3 o4 o5 o6:Option V):aA:=[((so "_law_more"),o0),((so "_law_tree"),o1),((so "_law_some"),o2),((so "_law_names_here"),o3),((so "_law_rows"),o4),((so "_law_j"),o5),((so "_law_part"),o6)]
noncomputable def rK(n:Nat)(σ:aA)(kn:KN)(kr:KR):R V:=stm BB (so "_law_wide") n 23 (bM (List.drop 1 (aH BB (so "_law_wide")))) σ kn kr
noncomputable def rL:Expr:=cI (List.drop 1 (aH BB (so "_law_wide")))
noncomputable def zN(n:Nat)(σ:aA)(kn:KN)(kr:KR):R V:=stm BB (so "_law_wide") n 24 (List.drop 2 (aH BB (so "_law_wide"))) σ kn kr
theorem Oo:rn (n+1) "_law_wide" [.fz a1,.fz a2,.fz a3,.fz a4]=(rb (rgI (j5 [(ofP (aU a3)),(aB .Add (.ok (.fz (.int 1))) (aB .Mod (ofP (aC .FloorDiv a1 (.int 16))) (.ok (.fz (.int 6)))))])) fun l1=>aT (rK n) rL l1 (gK (ζ a1) (ζ a2) (ζ a3) (ζ a4) (some (.own (.list []))) none none) (fun σ=>zN n σ (fun _=>R.ok (.fz .none)) R.ok) R.ok):=by kernel_rfl
theorem Op:aS rL d0 (gK p0 p1 p2 p3 p4 p5 p6)=.ok (gK p0 p1 p2 p3 p4 (ζ d0) p6):=by kernel_rfl
theorem Oq:rK n (gK (ζ x1) (ζ x2) (ζ x3) (ζ x4) (some (.own x5)) (ζ d0) o7) kn kr=(rb (aJ (.ok x3) (aB .Mod (ofP (aC .Add x1 d0)) (ofP (aU x3)))) fun v1=>(j6 (.ok x5) (so "append") [(aN [(aJ (.ok x4) (aB .Mod (aB .Add (ofP (aC .FloorDiv x1 (.int 64))) (.ok (.fz d0))) (.ok (.fz (.int 14))))),(ofP (rdv (V.clear v1))),(aG (rn n "_law_small") [(aB .Add (ofP (aC .FloorDiv x1 (.int 7))) (ofP (aC .Mult (.int 5) d0))),(aJ (.ok x2) (ofP (rdv (V.clear v1)))),(.ok (.fz x4))])])] fun o2=>(kn (gK (ζ x1) (ζ x2) (ζ x3) (ζ x4) (some (.own o2)) (ζ d0) (some (V.clear v1)))))):=by kernel_rfl
theorem Os:zN n (gK (ζ x1) (ζ x2) (ζ x3) (ζ x4) (some (.own x5)) o6 o7) kn kr=(rb (aN [(.ok (.fz (.str (so "beside")))),(ofP (cL x5))]) kr):=by kernel_rfl
theorem Ot:rn (n+1) "_law_piece" [.fz a1,.fz a2,.fz a3]=(rb (ofP (aC .Mod a1 (.int 10))) fun v1=>(rb (ofP (aC .FloorDiv a1 (.int 10))) fun v2=>(ifS (orS (unS .Not (.ok (.fz (.bool (dU a2))))) (aD (ofP (rdv (V.clear v1))) .Eq (.ok (.fz (.int 0))))) (R.ok (.fz (.tuple [(.str (so "whole"))]))) (rb (aK fG (ofP (fH a2))) fun v3=>(rb (aN [(.ok (.fz (.str (so "sift")))),(aJ (.ok a3) (aB .Add (.ok (.fz (.int 5))) (aB .Mod (ofP (rdv (V.clear v2))) (.ok (.fz (.int 4)))))),(aB .Sub (aB .Mod (aB .FloorDiv (ofP (rdv (V.clear v2))) (.ok (.fz (.int 4)))) (.ok (.fz (.int 7)))) (.ok (.fz (.int 3))))]) fun v4=>(ifS (a9 (aD (ofP (rdv (V.clear (V.clear v1)))) .Lt (.ok (.fz (.int 3)))) (aD (ofP (rdv (V.clear v3))) .NotEq (.ok (.own (.list []))))) (rb (aN [(.ok (.fz (.str (so "pick")))),(aJ (c8 (V.clear (V.clear v3))) (aB .Mod (ofP (rdv (V.clear (V.clear v2)))) (aK aU (ofP (rdv (V.clear (V.clear v3)))))))]) fun v5=>(dP v5 R.ok)) (ifS (a9 (aD (ofP (rdv (V.clear (V.clear (V.clear v1))))) .Eq (.ok (.fz (.int 3)))) (a9 (aD (ofP (rdv (V.clear (V.clear v3)))) .NotEq (.ok (.own (.list [])))) (aD (aJ (.ok a3) (aB .Mod (aB .FloorDiv (ofP (rdv (V.clear (V.clear v2)))) (.ok (.fz (.int 16)))) (.ok (.fz (.int 14))))) .NotIn (ofP (rdv (V.clear (V.clear v3))))))) (rb (aN [(.ok (.fz (.str (so "call")))),(aJ (c8 (V.clear (V.clear (V.clear v3)))) (aB .Mod (ofP (rdv (V.clear (V.clear (V.clear v2))))) (aK aU (ofP (rdv (V.clear (V.clear (V.clear v3)))))))),(aJ (.ok a3) (aB .Mod (aB .FloorDiv (ofP (rdv (V.clear (V.clear (V.clear v2))))) (.ok (.fz (.int 16)))) (.ok (.fz (.int 14)))))]) fun v6=>(dP v6 R.ok)) (ifS (a9 (aD (ofP (rdv (V.clear (V.clear (V.clear (V.clear v1)))))) .Eq (.ok (.fz (.int 4)))) (aD (ofP (rdv (V.clear (V.clear (V.clear v3))))) .NotEq (.ok (.own (.list []))))) (rb (aG (rn n "_law_wide") [(bQ (V.clear (V.clear (V.clear v2)))),(.ok (.fz a2)),(bQ (V.clear (V.clear (V.clear (V.clear v3))))),(.ok (.fz a3))]) fun v7=>(dP v7 R.ok)) (ifS (orS (aD (ofP (rdv (V.clear (V.clear (V.clear (V.clear (V.clear v1))))))) .Eq (.ok (.fz (.int 7)))) (aD (ofP (rdv (V.clear (V.clear (V.clear (V.clear (V.clear v1))))))) .Eq (.ok (.fz (.int 8))))) (rb (aB .Add (.ok (.fz (.int 5))) (aB .Mult (.ok (.fz (.int 2))) (aB .Mod (ofP (rdv (V.clear (V.clear (V.clear v2))))) (.ok (.fz (.int 2)))))) fun v8=>(rb (aX (.ok a3) (some (ofP (rdv (V.clear v8)))) (some (aB .Add (ofP (rdv (V.clear v8))) (.ok (.fz (.int 2)))))) fun v9=>(ifS (aD (aB .Mod (aB .FloorDiv (ofP (rdv (V.clear (V.clear (V.clear (V.clear v2)))))) (.ok (.fz (.int 2)))) (.ok (.fz (.int 4)))) .Eq (.ok (.fz (.int 1)))) (rb (aB .Add (.ok (.fz (.int 4))) (aB .Mod (aB .FloorDiv (ofP (rdv (V.clear (V.clear (V.clear (V.clear (V.clear v2))))))) (.ok (.fz (.int 8)))) (.ok (.fz (.int 4))))) fun v10=>(rb (aX (.ok a3) (some (ofP (rdv (V.clear v10)))) (some (aB .Add (aB .Add (ofP (rdv (V.clear v10))) (.ok (.fz (.int 1)))) (aB .Mod (aB .FloorDiv (ofP (rdv (V.clear (V.clear (V.clear (V.clear (V.clear (V.clear v2)))))))) (.ok (.fz (.int 32)))) (.ok (.fz (.int 6))))))) fun v11=>(rb (aN [(.ok (.fz (.str (so "join")))),(aJ (.ok a3) (aB .Add (.ok (.fz (.int 2))) (aB .Mod (ofP (rdv (V.clear (V.clear (V.clear (V.clear (V.clear (V.clear (V.clear v2))))))))) (.ok (.fz (.int 2)))))),(aJ (.ok a3) (aB .Sub (.ok (.fz (.int 3))) (aB .Mod (ofP (rdv (V.clear (V.clear (V.clear (V.clear (V.clear (V.clear (V.clear v2))))))))) (.ok (.fz (.int 2)))))),(aK cL (ofP (rdv (V.clear v11))))]) fun v12=>(dP v12 R.ok)))) (rb (aN [(.ok (.fz (.str (so "join")))),(aJ (.ok a3) (aB .Add (.ok (.fz (.int 2))) (aB .Mod (ofP (rdv (V.clear (V.clear (V.clear (V.clear (V.clear v2))))))) (.ok (.fz (.int 2)))))),(aJ (.ok a3) (aB .Sub (.ok (.fz (.int 3))) (aB .Mod (ofP (rdv (V.clear (V.clear (V.clear (V.clear (V.clear v2))))))) (.ok (.fz (.int 2)))))),(aK cL (ofP (rdv (V.clear v9))))]) fun v13=>(dP v13 R.ok))))) (ifS (aD (ofP (rdv (V.clear (V.clear (V.clear (V.clear (V.clear (V.clear v1)))))))) .Eq (.ok (.fz (.int 9)))) (rb (aN [(.ok (.fz (.str (so "each")))),(aG (rn n "_law_small") [(aB .FloorDiv (ofP (rdv (V.clear (V.clear (V.clear v2))))) (.ok (.fz (.int 5)))),(d6 (aD (ofP (rdv (V.clear (V.clear (V.clear (V.clear v3)))))) .NotEq (.ok (.own (.list [])))) (aJ (.ok a2) (aJ (c8 (V.clear (V.clear (V.clear (V.clear v3))))) (aB .Mod (ofP (rdv (V.clear (V.clear (V.clear v2))))) (aK aU (ofP (rdv (V.clear (V.clear (V.clear (V.clear v3)))))))))) (.ok (.fz (.int 0)))),(.ok (.fz a3))])]) fun v14=>(dP v14 R.ok)) (dP v4 R.ok))))))))))):=by kernel_rfl
theorem Ou:rn (n+1) "_law_fitting" [.fz a1,.fz a2,.fz a3]=(rb (rn n "_law_piece" [.fz a1,.fz a2,.fz a3]) fun v1=>(rb (d6 (aD (aG (rn n "_law_seen") [(bQ (V.clear v1)),(.ok (.fz a2))]) .Is (.ok (.fz .none))) (.ok (.fz (.tuple [(.str (so "whole"))]))) (ofP (rdv (V.clear v1)))) R.ok)):=by kernel_rfl
noncomputable def cA(o0 o1 o2 o3 o4 o5 o6 o7 o8:Option V):aA:=[((so "_law_script"),o0),((so "_law_first"),o1),((so "_law_tree"),o2),((so "_law_names_here"),o3),((so "_law_pieces"),o4),((so "_law_now"),o5),((so "_law_k"),o6),((so "_law_view_here"),o7),((so "_law_piece_here"),o8)]
noncomputable def rM(n:Nat)(σ:aA)(kn:KN)(kr:KR):R V:=stm BB (so "_law_view") n 23 (bM (List.drop 2 (aH BB (so "_law_view")))) σ kn kr
noncomputable def rN:Expr:=cI (List.drop 2 (aH BB (so "_law_view")))
noncomputable def rO(n:Nat)(σ:aA)(kn:KN)(kr:KR):R V:=stm BB (so "_law_view") n 24 (List.drop 3 (aH BB (so "_law_view"))) σ kn kr
theorem Ov:rn (n+1) "_law_view" [.fz a1,.fz a2,.fz a3,.fz a4]=(rb (rgI (aB .Add (.ok (.fz (.int 1))) (aB .Mod (rn n "_law_mixed" [.fz a1,.fz a2]) (.ok (.fz (.int 4)))))) fun l1=>aT (rM n) rN l1 (cA (ζ a1) (ζ a2) (ζ a3) (ζ a4) (some (.own (.list []))) (ζ a3) none none none) (fun σ=>rO n σ (fun _=>R.ok (.fz .none)) R.ok) R.ok):=by kernel_rfl
theorem Ow:aS rN d0 (cA p0 p1 p2 p3 p4 p5 p6 p7 p8)=.ok (cA p0 p1 p2 p3 p4 p5 (ζ d0) p7 p8):=by kernel_rfl
theorem Ox:rM n (cA (ζ x1) (ζ x2) (ζ x3) (ζ x4) (some (.own x5)) (some w6) (ζ d0) none none) kn kr=(j6 (.ok x5) (so "append") [(aG (rn n "_law_fitting") [(aG (rn n "_law_mixed") [(.ok (.fz x1)),(aB .Add (ofP (aC .Add x2 (.int 1))) (.ok (.fz d0)))]),(bQ (V.clear w6)),(.ok (.fz x4))])] fun o1=>(rb (aG (rn n "_law_seen") [(aJ (.ok o1) (unS .USub (.ok (.fz (.int 1))))),(bQ (V.clear (V.clear w6)))]) fun v2=>(kn (cA (ζ x1) (ζ x2) (ζ x3) (ζ x4) (some (.own o1)) (some v2) (ζ d0) none none)))):=by kernel_rfl
noncomputable def kE(n:Nat)(σ:aA)(kn:KN)(kr:KR):R V:=stm BB (so "_law_view") n 22 (bM (cR (List.drop 4 (aH BB (so "_law_view"))))) σ kn kr
noncomputable def kF:Expr:=cI (cR (List.drop 4 (aH BB (so "_law_view"))))
noncomputable def zO(n:Nat)(σ:aA)(kn:KN)(kr:KR):R V:=stm BB (so "_law_view") n 23 (List.drop 1 (cR (List.drop 4 (aH BB (so "_law_view"))))) σ kn kr
noncomputable def kG(n:Nat)(σ:aA)(kn:KN)(kr:KR):R V:=stm BB (so "_law_view") n 23 (bM (List.drop 6 (aH BB (so "_law_view")))) σ kn kr
noncomputable def kH:Expr:=cI (List.drop 6 (aH BB (so "_law_view")))
noncomputable def rP(n:Nat)(σ:aA)(kn:KN)(kr:KR):R V:=stm BB (so "_law_view") n 24 (List.drop 7 (aH BB (so "_law_view"))) σ kn kr
theorem Oy:rO n (cA (ζ x1) (ζ x2) (ζ x3) (ζ x4) (some (.own x5)) (some w6) o7 none none) kn kr=(rb (ofP (getItem x5 (.int 0))) fun v1=>(ifS (aD (aB .Mod (aB .FloorDiv (rn n "_law_mixed" [.fz x1,.fz x2]) (.ok (.fz (.int 4)))) (.ok (.fz (.int 2)))) .Eq (.ok (.fz (.int 0)))) (rb (plI (aX (.ok x5) (some (.ok (.fz (.int 1)))) none)) fun l2=>aT (kE n) kF l2 (cA (ζ x1) (ζ x2) (ζ x3) (ζ x4) (some (.own x5)) (some w6) o7 (some v1) none) (fun σ=>zO n σ (fun σ=>stm BB (so "_law_view") n 24 (List.drop 5 (aH BB (so "_law_view"))) σ kn kr) kr) kr) (rb (aJ (.ok x5) (unS .USub (.ok (.fz (.int 1))))) fun v3=>(rb (rvI (aX (.ok x5) none (some (unS .USub (.ok (.fz (.int 1))))))) fun l4=>aT (kG n) kH l4 (cA (ζ x1) (ζ x2) (ζ x3) (ζ x4) (some (.own x5)) (some w6) o7 (some v3) none) (fun σ=>rP n σ kn kr) kr)))):=by kernel_rfl
theorem Oz:aS kF d0 (cA p0 p1 p2 p3 p4 p5 p6 p7 p8)=.ok (cA p0 p1 p2 p3 p4 p5 p6 p7 (ζ d0)):=by kernel_rfl
theorem O0:kE n (cA (ζ x1) (ζ x2) (ζ x3) (ζ x4) (some (.own x5)) (some w6) o7 (some w8) (ζ d0)) kn kr=(rb (aN [(.ok (.fz (.str (so "then")))),(ofP (rdv (V.clear w8))),(.ok (.fz d0))]) fun v1=>(kn (cA (ζ x1) (ζ x2) (ζ x3) (ζ x4) (some (.own x5)) (some w6) o7 (some v1) (ζ d0)))):=by kernel_rfl
theorem O1:zO n (cA (ζ x1) (ζ x2) (ζ x3) (ζ x4) (some (.own x5)) (some w6) o7 (some w8) o9) kn kr=(dP w8 kr):=by kernel_rfl
theorem O2:aS kH d0 (cA p0 p1 p2 p3 p4 p5 p6 p7 p8)=.ok (cA p0 p1 p2 p3 p4 p5 p6 p7 (ζ d0)):=by kernel_rfl
theorem O3:kG n (cA (ζ x1) (ζ x2) (ζ x3) (ζ x4) (some (.own x5)) (some w6) o7 (some w8) (ζ d0)) kn kr=(rb (aN [(.ok (.fz (.str (so "then")))),(.ok (.fz d0)),(ofP (rdv (V.clear w8)))]) fun v1=>(kn (cA (ζ x1) (ζ x2) (ζ x3) (ζ x4) (some (.own x5)) (some w6) o7 (some v1) (ζ d0)))):=by kernel_rfl
theorem O4:rP n (cA (ζ x1) (ζ x2) (ζ x3) (ζ x4) (some (.own x5)) (some w6) o7 (some w8) o9) kn kr=(dP w8 kr):=by kernel_rfl
noncomputable def bA(o0 o1 o2 o3 o4 o5 o6 o7 o8 o9:Option V):aA:=[((so "_law_view_here"),o0),((so "_law_text_here"),o1),((so "_law_name_here"),o2),((so "_law_part"),o3),((so "_law_inner"),o4),((so "_law_row"),o5),((so "_law_k"),o6),((so "_law_field"),o7),((so "_law_one"),o8),((so "_law_more"),o9)]
noncomputable def nO(n:Nat)(σ:aA)(kn:KN)(kr:KR):R V:=stm BB (so "_law_text") n 22 (bM (cR (List.drop 1 (aH BB (so "_law_text"))))) σ kn kr
noncomputable def kI:Expr:=cI (cR (List.drop 1 (aH BB (so "_law_text"))))
noncomputable def rQ(n:Nat)(σ:aA)(kn:KN)(kr:KR):R V:=stm BB (so "_law_text") n 23 (List.drop 1 (cR (List.drop 1 (aH BB (so "_law_text"))))) σ kn kr
noncomputable def iJ(n:Nat)(σ:aA)(kn:KN)(kr:KR):R V:=stm BB (so "_law_text") n 21 (bM (List.drop 1 (cR (cZ (List.drop 1 (aH BB (so "_law_text"))))))) σ kn kr
noncomputable def iK:Expr:=cI (List.drop 1 (cR (cZ (List.drop 1 (aH BB (so "_law_text"))))))
noncomputable def rR(n:Nat)(σ:aA)(kn:KN)(kr:KR):R V:=stm BB (so "_law_text") n 22 (List.drop 2 (cR (cZ (List.drop 1 (aH BB (so "_law_text")))))) σ kn kr
noncomputable def rS(n:Nat)(σ:aA)(kn:KN)(kr:KR):R V:=stm BB (so "_law_text") n 21 (bM (cZ (cZ (List.drop 1 (aH BB (so "_law_text")))))) σ kn kr
noncomputable def nP:Expr:=cI (cZ (cZ (List.drop 1 (aH BB (so "_law_text")))))
noncomputable def rT(n:Nat)(σ:aA)(kn:KN)(kr:KR):R V:=stm BB (so "_law_text") n 22 (List.drop 1 (cZ (cZ (List.drop 1 (aH BB (so "_law_text")))))) σ kn kr
theorem rU:rn (n+1) "_law_text" [.fz a1]=(rb (aB .Add (.ok (.fz (.str (so "(")))) (ofP (getItem a1 (.int 0)))) fun v1=>(ifS (aD (ofP (getItem a1 (.int 0))) .Eq (.ok (.fz (.str (so "beside"))))) (rb (plI (ofP (getItem a1 (.int 1)))) fun l2=>aT (nO n) kI l2 (bA (ζ a1) (some v1) none none none none none none none none) (fun σ=>rQ n σ (fun σ=>stm BB (so "_law_text") n 24 (List.drop 2 (aH BB (so "_law_text"))) σ (fun _=>R.ok (.fz .none)) R.ok) R.ok) R.ok) (ifS (aD (ofP (getItem a1 (.int 0))) .Eq (.ok (.fz (.str (so "join"))))) (rb (aB .Add (aB .Add (aB .Add (aB .Add (aB .Add (ofP (rdv (V.clear v1))) (.ok (.fz (.str (so " "))))) (ofP (getItem a1 (.int 1)))) (.ok (.fz (.str (so " "))))) (ofP (getItem a1 (.int 2)))) (.ok (.fz (.str (so " ("))))) fun v3=>(rb (enI (ofP (getItem a1 (.int 3)))) fun l4=>aT (iJ n) iK l4 (bA (ζ a1) (some v3) none none none none none none none none) (fun σ=>rR n σ (fun σ=>stm BB (so "_law_text") n 23 (List.drop 1 (cZ (List.drop 1 (aH BB (so "_law_text"))))) σ (fun σ=>stm BB (so "_law_text") n 24 (List.drop 2 (aH BB (so "_law_text"))) σ (fun _=>R.ok (.fz .none)) R.ok) R.ok) R.ok) R.ok)) (rb (plI (aX (.ok a1) (some (.ok (.fz (.int 1)))) none)) fun l5=>aT (rS n) nP l5 (bA (ζ a1) (some v1) none none none none none none none none) (fun σ=>rT n σ (fun σ=>stm BB (so "_law_text") n 23 (List.drop 1 (cZ (List.drop 1 (aH BB (so "_law_text"))))) σ (fun σ=>stm BB (so "_law_text") n 24 (List.drop 2 (aH BB (so "_law_text"))) σ (fun _=>R.ok (.fz .none)) R.ok) R.ok) R.ok) R.ok)))):=by kernel_rfl
theorem O5:aS kI (.tuple [d0,d1,d2]) (bA p0 p1 p2 p3 p4 p5 p6 p7 p8 p9)=.ok (bA p0 p1 (ζ d0) (ζ d1) (ζ d2) p5 p6 p7 p8 p9):=by kernel_rfl
theorem O6:nO n (bA (ζ x1) (some w2) (ζ d0) (ζ d1) (ζ d2) o6 none none none none) kn kr=(rb (aB .Add (aB .Add (aB .Add (ofP (aC .Add d0 (.str (so " ")))) (.ok (.fz d1))) (.ok (.fz (.str (so " "))))) (rn n "_law_text" [.fz d2])) fun v1=>(rb (aB .Add (aB .Add (aB .Add (ofP (rdv (V.clear w2))) (.ok (.fz (.str (so " ("))))) (ofP (rdv (V.clear v1)))) (.ok (.fz (.str (so ")"))))) fun v2=>(kn (bA (ζ x1) (some v2) (ζ d0) (ζ d1) (ζ d2) (some (V.clear v1)) none none none none)))):=by kernel_rfl
theorem O7:rQ n (bA (ζ x1) (some w2) o3 o4 o5 o6 none none none none) kn kr=(kn (bA (ζ x1) (some w2) o3 o4 o5 o6 none none none none)):=by kernel_rfl
theorem O8:aS iK (.tuple [d0,d1]) (bA p0 p1 p2 p3 p4 p5 p6 p7 p8 p9)=.ok (bA p0 p1 p2 p3 p4 p5 (ζ d0) (ζ d1) p8 p9):=by kernel_rfl
theorem O9:iJ n (bA (ζ x1) (some w2) none none none none (ζ d0) (ζ d1) none none) kn kr=(rb (aB .Add (aB .Add (ofP (rdv (V.clear w2))) (aB .Mult (.ok (.fz (.str (so " ")))) (aK dX (aV (ofP (cmp .Gt d0 (.int 0))))))) (.ok (.fz d1))) fun v1=>(kn (bA (ζ x1) (some v1) none none none none (ζ d0) (ζ d1) none none))):=by kernel_rfl
theorem Pa:rR n (bA (ζ x1) (some w2) none none none none o7 o8 none none) kn kr=(rb (aB .Add (ofP (rdv (V.clear w2))) (.ok (.fz (.str (so ")"))))) fun v1=>(kn (bA (ζ x1) (some v1) none none none none o7 o8 none none))):=by kernel_rfl
theorem Pb:aS nP d0 (bA p0 p1 p2 p3 p4 p5 p6 p7 p8 p9)=.ok (bA p0 p1 p2 p3 p4 p5 p6 p7 (ζ d0) p9):=by kernel_rfl
theorem Pc:rS n (bA (ζ x1) (some w2) none none none none none none (ζ d0) o10) kn kr=(rb (d6 (.ok (.fz (.bool (dW d0)))) (rn n "_law_text" [.fz d0]) (ofP (eR d0))) fun v1=>(rb (aB .Add (aB .Add (ofP (rdv (V.clear w2))) (.ok (.fz (.str (so " "))))) (ofP (rdv (V.clear v1)))) fun v2=>(kn (bA (ζ x1) (some v2) none none none none none none (ζ d0) (some (V.clear v1)))))):=by kernel_rfl
theorem Pd:rT n (bA (ζ x1) (some w2) none none none none none none o9 o10) kn kr=(kn (bA (ζ x1) (some w2) none none none none none none o9 o10)):=by kernel_rfl
theorem rV:rn (n+1) "_law_alike" [.fz a1,.fz a2]=(ifS (.ok (.fz (.bool (dW a2)))) (ifS (orS (unS .Not (.ok (.fz (.bool (dW a1))))) (aD (ofP (aU a1)) .NotEq (ofP (aU a2)))) (R.ok (.fz (.bool false))) (rb (aK bS (aO (zpI [(.ok (.fz a1)),(.ok (.fz a2))]) (fun d1=>pr2 d1 fun d2 d3=>(.ok true)) (fun d1=>pr2 d1 fun d2 d3=>(rn n "_law_alike" [.fz d2,.fz d3])))) R.ok)) (ifS (.ok (.fz (.bool (fF a2)))) (rb (a9 (.ok (.fz (.bool (fF a1)))) (aV (ofP (cmp .Eq a1 a2)))) R.ok) (rb (a9 (.ok (.fz (.bool (eF a1)))) (a9 (unS .Not (.ok (.fz (.bool (eQ a1))))) (aV (ofP (cmp .Eq a1 a2))))) R.ok))):=by kernel_rfl
theorem Pe:rn (n+1) "_law_sifting" [.fz a1,.fz a2]=(rb (ofP (aC .FloorDiv a1 (.int 4))) fun v1=>(rb (aJ (d8 (cS [(aB .Sub (aB .Mod (ofP (rdv (V.clear v1))) (.ok (.fz (.int 2001)))) (.ok (.fz (.int 1000)))),(aB .Sub (aB .Sub (ofP (aC .Pow (.int 10) (.int 30))) (.ok (.fz (.int 1)))) (aB .Mod (ofP (rdv (V.clear v1))) (.ok (.fz (.int 7))))),(aB .Add (aB .Sub (aB .Mod (ofP (rdv (V.clear v1))) (.ok (.fz (.int 7)))) (ofP (aC .Pow (.int 10) (.int 30)))) (.ok (.fz (.int 1)))),(.ok (.fz (.int 0)))])) (ofP (aC .Mod a1 (.int 4)))) fun v2=>(rb (aN [(.ok (.fz (.str (so "sift")))),(.ok (.fz a2)),(ofP (rdv (V.clear v2)))]) R.ok))):=by kernel_rfl
theorem Pf:rn (n+1) "_law_wider" [.fz a1,.fz a2,.fz a3]=(rb (aG (rn n "_law_sifting") [(ofP (aC .FloorDiv a2 (.int 8))),(aJ (.ok a3) (aB .Mod (ofP (aC .FloorDiv a2 (.int 7))) (.ok (.fz (.int 14)))))]) fun v1=>(ifS (aD (ofP (aC .Mod a2 (.int 4))) .Eq (.ok (.fz (.int 0)))) (rb (aN [(.ok (.fz (.str (so "then")))),(.ok (.fz a1)),(ofP (rdv (V.clear v1)))]) R.ok) (ifS (aD (ofP (aC .Mod a2 (.int 4))) .Eq (.ok (.fz (.int 1)))) (rb (aN [(.ok (.fz (.str (so "each")))),(aN [(.ok (.fz (.str (so "then")))),(ofP (rdv (V.clear v1))),(.ok (.fz a1))])]) R.ok) (ifS (aD (ofP (aC .Mod a2 (.int 4))) .Eq (.ok (.fz (.int 2)))) (rb (aN [(aJ (.ok a3) (aB .Mod (ofP (aC .FloorDiv a2 (.int 8))) (.ok (.fz (.int 14))))),(aJ (.ok a3) (aB .Mod (ofP (aC .FloorDiv a2 (.int 112))) (.ok (.fz (.int 14))))),(.ok (.fz a1))]) fun v2=>(rb (aN [(aJ (.ok a3) (aB .Mod (aB .Add (ofP (aC .FloorDiv a2 (.int 8))) (.ok (.fz (.int 1)))) (.ok (.fz (.int 14))))),(aJ (.ok a3) (aB .Mod (aB .Add (ofP (aC .FloorDiv a2 (.int 112))) (.ok (.fz (.int 3)))) (.ok (.fz (.int 14))))),(ofP (rdv (V.clear v1)))]) fun v3=>(rb (aN [(.ok (.fz (.str (so "beside")))),(aN [(ofP (rdv (V.clear v2))),(ofP (rdv (V.clear v3)))])]) R.ok))) (rb (aK cL (aO (rgI (aB .Add (.ok (.fz (.int 1))) (aB .Mod (ofP (aC .FloorDiv a2 (.int 112))) (.ok (.fz (.int 6)))))) (fun d4=>(.ok true)) (fun d4=>(aJ (.ok a3) (aB .Mod (aB .Add (ofP (aC .FloorDiv a2 (.int 8))) (.ok (.fz d4))) (.ok (.fz (.int 14)))))))) fun v5=>(rb (aN [(.ok (.fz (.str (so "then")))),(aN [(.ok (.fz (.str (so "join")))),(aJ (.ok a3) (aB .Mod (ofP (aC .FloorDiv a2 (.int 9))) (.ok (.fz (.int 14))))),(aJ (.ok a3) (aB .Mod (aB .Add (ofP (aC .FloorDiv a2 (.int 9))) (.ok (.fz (.int 5)))) (.ok (.fz (.int 14))))),(ofP (rdv (V.clear v5)))]),(.ok (.fz a1))]) R.ok)))))):=by kernel_rfl
theorem Pg:rn (n+1) "_law_told" [.fz a1]=(M7 BB (so "ViewError") (rn n "read" [.fz a1]) R.ok):=by kernel_rfl
noncomputable def dG(o0 o1 o2 o3 o4 o5 o6 o7 o8:Option V):aA:=[((so "_law_script"),o0),((so "_law_names_here"),o1),((so "_law_tree"),o2),((so "_law_turn"),o3),((so "_law_cell"),o4),((so "_law_view_here"),o5),((so "_law_more"),o6),((so "_law_text_here"),o7),((so "_law_found"),o8)]
noncomputable def kJ(n:Nat)(σ:aA)(kn:KN)(kr:KR):R V:=stm BB (so "law") n 23 (bM (List.drop 2 (aH BB (so "law")))) σ kn kr
noncomputable def kK:Expr:=cI (List.drop 2 (aH BB (so "law")))
noncomputable def rW(n:Nat)(σ:aA)(kn:KN)(kr:KR):R V:=stm BB (so "law") n 24 (List.drop 3 (aH BB (so "law"))) σ kn kr
theorem Ph:rn (n+1) "law" [.fz a1]=(rb (rn n "_law_names" [.fz a1]) fun v1=>(rb (aG (rn n "_law_house") [(.ok (.fz a1)),(bQ (V.clear v1))]) fun v2=>(rb (enI (aX (.ok a1) (some (.ok (.fz (.int 2)))) (some (.ok (.fz (.int 22)))))) fun l3=>aT (kJ n) kK l3 (dG (ζ a1) (some (V.clear v1)) (some v2) none none none none none none) (fun σ=>rW n σ (fun _=>R.ok (.fz .none)) R.ok) R.ok))):=by kernel_rfl
theorem Pi:aS kK (.tuple [d0,d1]) (dG p0 p1 p2 p3 p4 p5 p6 p7 p8)=.ok (dG p0 p1 p2 (ζ d0) (ζ d1) p5 p6 p7 p8):=by kernel_rfl
noncomputable def rX(n:Nat)(σ:aA)(kn:KN)(kr:KR):R V:=stm BB (so "law") n 22 (bM (List.drop 1 (bM (List.drop 2 (aH BB (so "law")))))) σ kn kr
noncomputable def nQ:Expr:=cI (List.drop 1 (bM (List.drop 2 (aH BB (so "law")))))
noncomputable def rY(n:Nat)(σ:aA)(kn:KN)(kr:KR):R V:=stm BB (so "law") n 23 (List.drop 2 (bM (List.drop 2 (aH BB (so "law"))))) σ kn kr
theorem Pj:kJ n (dG (ζ x1) (some w2) (some w3) (ζ d0) (ζ d1) o6 o7 o8 o9) kn kr=(rb (aG (rn n "_law_view") [(.ok (.fz x1)),(aB .Add (.ok (.fz (.int 300))) (ofP (aC .Mult (.int 7) d0))),(bQ (V.clear w3)),(bQ (V.clear w2))]) fun v1=>(rb (plI (aX (d8 (cS [(.ok (.fz d1)),(ofP (aC .FloorDiv d1 (.int 64)))])) none (some (ofP (aC .Mod d1 (.int 3)))))) fun l2=>aT (rX n) nQ l2 (dG (ζ x1) (some (V.clear w2)) (some (V.clear w3)) (ζ d0) (ζ d1) (some v1) o7 o8 o9) (fun σ=>rY n σ kn kr) kr)):=by kernel_rfl
theorem Pk:rW n (dG (ζ x1) (some w2) (some w3) o4 o5 o6 o7 o8 o9) kn kr=(kr (.fz (.bool true))):=by kernel_rfl
theorem Pl:aS nQ d0 (dG p0 p1 p2 p3 p4 p5 p6 p7 p8)=.ok (dG p0 p1 p2 p3 p4 p5 (ζ d0) p7 p8):=by kernel_rfl
theorem Pm:rX n (dG (ζ x1) (some w2) (some w3) (ζ x4) (ζ x5) (some w6) (ζ d0) o8 o9) kn kr=(rb (aG (rn n "_law_wider") [(bQ (V.clear w6)),(.ok (.fz d0)),(bQ (V.clear w2))]) fun v1=>(kn (dG (ζ x1) (some (V.clear w2)) (some w3) (ζ x4) (ζ x5) (some v1) (ζ d0) o8 o9))):=by kernel_rfl
theorem Pn:rY n (dG (ζ x1) (some w2) (some w3) (ζ x4) (ζ x5) (some w6) o7 o8 o9) kn kr=(rb (aG (rn n "_law_text") [(bQ (V.clear w6))]) fun v1=>(rb (aG (rn n "written") [(bQ (V.clear (V.clear w6)))]) fun v2=>(ifS (orS (unS .Not (fT (so "str") (ofP (rdv (V.clear v2))))) (aD (ofP (rdv (V.clear v2))) .NotEq (ofP (rdv (V.clear v1))))) (kr (.fz (.bool false))) (ifS (unS .Not (aG (rn n "_law_alike") [(aG (rn n "_law_told") [(bQ (V.clear (V.clear v1)))]),(bQ (V.clear (V.clear (V.clear w6))))])) (kr (.fz (.bool false))) (kn (dG (ζ x1) (some w2) (some w3) (ζ x4) (ζ x5) (some (V.clear (V.clear (V.clear w6)))) o7 (some (V.clear (V.clear v1))) (some (V.clear v2)))))))):=by kernel_rfl
end Mine
namespace Mine
open Classical PySem
inductive T where
 |num (i:Int)
 |br (f:Str→Option T)
inductive W where
 |whole
 |pick (n:Str)
 |call (a b:Str)
 |sift (f:Str) (l:Int)
 |join (a b:Str) (fs:List Str)
 |each (v:W)
 |andThen (a b:W)
 |beside (r:W)
 |bnil
 |bcons (n p:Str) (v r:W)
noncomputable def grd{α:Type}(p:Prop)(x:Option α):Option α:=if p then x else none
theorem iL{α:Type}{p:Prop}(h:p)(x:Option α):grd p x=x:=if_pos h
theorem iM{α:Type}{p:Prop}(h:¬ p)(x:Option α):grd p x=none:=if_neg h
theorem Po{α:Type}{p:Prop}{x:Option α}{y:α}(h:grd p x=some y):p∧x=some y:=by
 by_cases e:p
 ·rw[iL e] at h;exact⟨e,h⟩
 ·rw[iM e] at h;exact ns h
noncomputable def T.get:T→Str→Option T
 | .num _,_=>none
 | .br f,k=>f k
theorem nR(f:Str→Option T)(k:Str):(T.br f).get k=f k:=rfl
noncomputable def upd(f:Str→Option T)(k:Str)(x:Option T):Str→Option T:=fun j=>if j=k then x else f j
noncomputable def c9(f:Str→Option T):Prop:=∀ k t,f k=some t→∃ g,t=.br g
noncomputable def eY(a:Str)(l:Int)(t:T):Prop:=∃ i,t.get a=some (.num i)∧l≤i
structure FitJ(fs:List Str)(g h:Str→Option T):Prop where
 ga:c9 g
 ha:c9 h
 gf:∀ k t,g k=some t→∀ x,(t.get x).isSome=true→x∈fs
 hf:∀ k t,h k=some t→∀ x,(t.get x).isSome=true→x∉fs
noncomputable def zP(r s:T):T:=.br fun x=>(s.get x).or (r.get x)
noncomputable def iN(g h:Str→Option T):Str→Option T:=fun k=>(g k).bind fun r=>(h k).bind fun s=>some (zP r s)
noncomputable def W.names:W→List Str
 | .bcons n _ _ r=>n::r.names
 |_=>[]
noncomputable def W.parts:W→List Str
 | .bcons _ p _ r=>p::r.parts
 |_=>[]
theorem rZ:W.bnil.names=[]:=rfl
theorem r9(n p:Str)(v r:W):(W.bcons n p v r).names=n::r.names:=rfl
theorem Pp:W.bnil.parts=[]:=rfl
theorem Pq(n p:Str)(v r:W):(W.bcons n p v r).parts=p::r.parts:=rfl
noncomputable def W.isRows:W→Bool
 | .bcons _ _ _ _=>true
 | .bnil=>true
 |_=>false
noncomputable def nS(x y:Str)(g:Str→Option T):Str→Option T:=fun k=>if k=y then g x else if k=x then none else g k
noncomputable def nT(a:Str)(l:Int)(g:Str→Option T):Str→Option T:=fun k=>(g k).bind fun x=>grd (eY a l x) (some x)
noncomputable def zQ(fs:List Str)(x y:T):Option T:=match x with
 | .num _=>none
 | .br g=>match y with
  | .num _=>none
  | .br h=>grd (FitJ fs g h) (some (.br (iN g h)))
theorem zR{α β:Type}{o:Option α}{k:α→Option β}{y:β}(h:o.bind k=some y):∃ x,o=some x∧k x=some y:=by
 cases o with
 |none=>exact ns h
 |some x=>exact⟨x,rfl,h⟩
noncomputable def aL:W→T→Option T
 | .whole,t=>some t
 | .pick n,t=>t.get n
 | .call a b,t=>grd ((t.get a).isSome=true∧t.get b=none) (some (.br (nS a b t.get)))
 | .sift a l,t=>match t with
  | .num _=>none
  | .br g=>grd (c9 g) (some (.br (nT a l g)))
 | .join a b fs,t=>(t.get a).bind fun x=>(t.get b).bind fun y=>zQ fs x y
 | .each v,t=>match t with
  | .num _=>none
  | .br g=>grd (∀ k x,g k=some x→(aL v x).isSome=true) (some (.br fun k=>(g k).bind (aL v)))
 | .andThen a b,t=>(aL a t).bind (aL b)
 | .beside r,t=>aL r t
 | .bnil,t=>some (.br fun _=>none)
 | .bcons n p v r,t=>(t.get p).bind fun x=>(aL v x).bind fun y=>(aL r t).bind fun z=>some (.br (upd z.get n (some y)))
noncomputable def zS(P:Str→Prop)(one other new:Str→Option T):Str→Option T:=fun k=>match new k with
 |some x=>some (.br fun f=>grd (P f) (x.get f))
 |none=>if (other k).isSome then none else one k
noncomputable def eN:W→T→T→Option T
 | .whole,_,new=>some new
 | .pick n,old,new=>some (.br (upd old.get n (some new)))
 | .call a b,_,new=>grd ((new.get b).isSome=true∧new.get a=none) (some (.br (nS b a new.get)))
 | .sift a l,old,new=>match new with
  | .num _=>none
  | .br h=>grd ((c9 h∧∀ k x,h k=some x→eY a l x)∧∀ k x,(h k).isSome=true→old.get k=some x→eY a l x)
    (some (.br fun k=>(h k).or ((old.get k).bind fun x=>grd (¬ eY a l x) (some x))))
 | .join a b fs,old,new=>match new with
  | .num _=>none
  | .br h=>(old.get a).bind fun one=>(old.get b).bind fun other =>
   grd (c9 h∧∀ k,(h k).isSome=true→((one.get k).isSome=(other.get k).isSome))
    (some (.br (upd (upd old.get a (some (.br (zS (fun f=>f∈fs) one.get other.get h)))) b (some (.br (zS (fun f=>f∉fs) other.get one.get h))))))
 | .each v,old,new=>match new with
  | .num _=>none
  | .br h=>grd ((∀ k,(h k).isSome=(old.get k).isSome)∧∀ k x y,old.get k=some x→h k=some y→(eN v x y).isSome=true)
    (some (.br fun k=>(old.get k).bind fun x=>(h k).bind fun y=>eN v x y))
 | .andThen a b,old,new=>(aL a old).bind fun m=>(eN b m new).bind fun mid=>eN a old mid
 | .beside r,old,new=>match new with
  | .num _=>none
  | .br h=>grd (∀ k,(h k).isSome=true↔k∈r.names) (eN r old new)
 | .bnil,old,_=>some old
 | .bcons n p v r,old,new=>(old.get p).bind fun o=>(new.get n).bind fun x=>(eN v o x).bind fun y=>(eN r old new).bind fun z=>some (.br (upd z.get p (some y)))
noncomputable def W.wf:W→Prop
 | .call a b=>a≠b
 | .join a b _=>a≠b
 | .each v=>v.wf∧v.isRows=false
 | .andThen a b=>(a.wf∧a.isRows=false)∧b.wf∧b.isRows=false
 | .beside r=>r.wf∧r.isRows=true
 | .bcons n p v r=>(v.wf∧v.isRows=false)∧(r.wf∧r.isRows=true)∧n∉r.names∧p∉r.parts
 |_=>True
theorem Pr{a b:Str}{fs:List Str}{t:T}{g h:Str→Option T}(ha:t.get a=some (.br g))(hb:t.get b=some (.br h)):aL (.join a b fs) t=grd (FitJ fs g h) (some (.br (iN g h))):=by
 show((t.get a).bind fun x=>(t.get b).bind fun y=>zQ fs x y)=_;rw[ha,hb];rfl
theorem Ps{a b:Str}{fs:List Str}{t s:T}(e:aL (.join a b fs) t=some s):∃ g h,t.get a=some (.br g)∧t.get b=some (.br h)∧FitJ fs g h∧s=.br (iN g h):=by
 obtain⟨x,h1,e⟩:=zR e;obtain⟨y,h2,e⟩:=zR e;cases x with
 |num i=>exact ns e
 |br g =>
  cases y with
  |num i=>exact ns e
  |br h =>
   obtain⟨F,e⟩:=Po e;obtain rfl:=si e;exact⟨g,h,h1,h2,F,rfl⟩
end Mine
namespace Mine
open Classical PySem
noncomputable def ltS(a b:Str):Prop:=a.cps.toList < b.cps.toList
structure Rf where
 way:List PyData
 kind:Str
 part:T
noncomputable def eB:Str:=so "form"
noncomputable def zT:Str:=so "hidden"
noncomputable def Pt:Str:=so "names"
inductive Lst(P:Str→Prop)(k:Str):Prop where
 |mk (h:P k) (g:∀ j,ltS j k→¬ P j):Lst P k
noncomputable def lst(P:Str→Prop):Str:=if h:∃ k,Lst P k then choose h else eB
theorem Wm{P:Str→Prop}{k:Str}(tri:∀ {a b:Str},¬ ltS b a→a≠b→ltS a b)(h:Lst P k):lst P=k:=by
 have e:∃ k,Lst P k:=⟨k,h⟩
 have:Lst P (lst P):=by unfold lst;rw[dif_pos e];exact choose_spec e
 obtain⟨a1,a2⟩:=h;obtain⟨b1,b2⟩:=this;refine Classical.byContradiction fun hn=>?_
 by_cases hl:ltS k (lst P)
 ·exact b2 k hl a1
 ·exact a2 _ (tri hl hn) b1
noncomputable def Pu(a:Str)(l:Int):T→Prop
 | .num _=>False
 | .br h=>c9 h∧∀ k x,h k=some x→eY a l x
noncomputable def Pv:T→Prop
 | .num _=>False
 | .br h=>c9 h
noncomputable def frm(p:Prop)(s:Str):Str:=if p then s else eB
theorem Wn{p:Prop}(h:p)(s:Str):frm p s=s:=if_pos h
theorem Wo{p:Prop}(h:¬ p)(s:Str):frm p s=eB:=if_neg h
noncomputable def sel(p:Prop)(x y:Rf):Rf:=if p then x else y
theorem Wp{p:Prop}(h:p)(x y:Rf):sel p x y=x:=if_pos h
theorem Wq{p:Prop}(h:¬ p)(x y:Rf):sel p x y=y:=if_neg h
noncomputable def sA(v:W)(f h:Str→Option T):Str:=lst fun k=>∃ x y,f k=some x∧h k=some y∧eN v x y=none
noncomputable def iO:W→T→T→List PyData→Rf
 | .sift a l,_,new,w=>⟨w,frm (Pu a l new) zT,new⟩
 | .join _ _ _,_,new,w=>⟨w,frm (Pv new) zT,new⟩
 | .each v,old,new,w=>match new with
  | .num _=>⟨w,eB,new⟩
  | .br h=>sel (∀ k,(h k).isSome=(old.get k).isSome) (((old.get (sA v old.get h)).bind fun x=>(h (sA v old.get h)).map fun y=>iO v x y (w++[.str (sA v old.get h)])).getD ⟨w,eB,new⟩) ⟨w,Pt,new⟩
 | .andThen a b,old,new,w=>(aL a old).elim ⟨w,eB,new⟩ fun m=>(eN b m new).elim (iO b m new (w++[.int 1])) fun mid=>iO a old mid (w++[.int 0])
 | .beside r,old,new,w=>match new with
  | .num _=>⟨w,eB,new⟩
  | .br h=>sel (∀ k,(h k).isSome=true↔k∈r.names) (iO r old new w) ⟨w,eB,new⟩
 | .bcons n p v r,old,new,w=>(old.get p).elim ⟨w,eB,new⟩ fun o=>(new.get n).elim ⟨w,eB,new⟩ fun x=>(eN v o x).elim (iO v o x (w++[.str n])) fun _=>iO r old new w
 |_,_,new,w=>⟨w,eB,new⟩
end Mine
namespace Mine
open PySem
abbrev TT:=T
abbrev WW:=W
abbrev LP:=List (Str×PyData)
noncomputable def mkd(l:LP):List (PyData×PyData):=l.map fun p=>(.str p.1,p.2)
noncomputable def ks(l:LP):List Str:=l.map (·.1)
noncomputable def lk:LP→Str→Option PyData
 | [],_=>none
 |p::r,x=>if x=p.1 then some p.2 else lk r x
noncomputable def st:LP→Str→PyData→LP
 | [],x,u=>[(x,u)]
 |p::r,x,u=>if x=p.1 then (p.1,u)::r else p::st r x u
noncomputable def sts:LP→LP→LP
 | [],acc=>acc
 |p::r,acc=>sts r (st acc p.1 p.2)
noncomputable def dl:LP→Str→LP
 | [],_=>[]
 |p::r,x=>if x=p.1 then r else p::dl r x
theorem kL:∀ (l:LP) (x:Str),bP (mkd l) x=lk l x:=by
 intro v0
 induction v0 with
 |nil =>
  intro _;exact rfl
 |cons p r ih =>
  intro x;show(if x=p.1 then some p.2 else bP (mkd r) x)=if x=p.1 then some p.2 else lk r x;rw[ih x]
theorem zU:∀ (l:LP) (x:Str) (u:PyData),dJ (mkd l) x u=mkd (st l x u):=by
 intro v0
 induction v0 with
 |nil =>
  intro _ _;exact rfl
 |cons p r ih =>
  intro x u;show(if x=p.1 then (.str p.1,u)::mkd r else (.str p.1,p.2)::dJ (mkd r) x u)=mkd (if x=p.1 then (p.1,u)::r else p::st r x u);rw[ih x u]
  split<;>rfl
theorem Pw:∀ (l:LP) (x:Str),dC (mkd l) x=mkd (dl l x):=by
 intro v0
 induction v0 with
 |nil =>
  intro _;exact rfl
 |cons p r ih =>
  intro x;show(if x=p.1 then mkd r else (.str p.1,p.2)::dC (mkd r) x)=mkd (if x=p.1 then r else p::dl r x);rw[ih x]
  split<;>rfl
theorem zV:∀ (ps acc:LP),cK ps (mkd acc)=mkd (sts ps acc):=by
 intro v0
 induction v0 with
 |nil =>
  intro _;exact rfl
 |cons p r ih =>
  intro acc;show cK r (dJ (mkd acc) p.1 p.2)=_;simp only[zU,ih];rfl
theorem sB(l:LP):(mkd l).map (·.1)=(ks l).map PyData.str:=by
 simp[mkd,ks,List.map_map,Function.comp_def]
theorem Px(l:LP):(mkd l).length=l.length:=by simp[mkd]
theorem mk_keys?:∀ l:LP,keys? (mkd l)=some l
 | []=>rfl
 |p::r=>by
  show(keys? (mkd r)).map ((p.1,p.2)::·)=_;rw[mk_keys? r];rfl
theorem nU:∀ (l:LP) (x:Str) (u:PyData) (y:Str),lk (st l x u) y=if y=x then some u else lk l y:=by
 intro v0
 induction v0 with
 |nil =>
  intro x u y;exact rfl
 |cons p r ih =>
  intro x u y;show lk (if x=p.1 then (p.1,u)::r else p::st r x u) y=if y=x then some u else if y=p.1 then some p.2 else lk r y
  by_cases h:x=p.1
  ·rw[if_pos h];show(if y=p.1 then some u else lk r y)=_;subst h
   split<;>rfl
  ·rw[if_neg h];show(if y=p.1 then some p.2 else lk (st r x u) y)=_;rw[ih x u y]
   by_cases e:y=x
   ·subst e;rw[if_neg h,if_pos rfl,if_pos rfl]
   ·rw[if_neg e,if_neg e]
theorem kM:∀ {l:LP} {x:Str} , (lk l x).isSome=true↔x∈ks l
 | [],x=>⟨fun h=>bft h,fun h=>bT h⟩
 |p::r,x=>by
  show(if x=p.1 then some p.2 else lk r x).isSome=true↔x∈p.1::ks r
  by_cases h:x=p.1
  ·simp[h]
  ·rw[if_neg h,kM (l:=r)];simp[h]
theorem sE{l:LP}{x:Str}{d:PyData}(h:lk l x=some d):x∈ks l:=kM.mp (by rw[h];rfl)
theorem Py:∀ {l:LP} (x:Str) (u:PyData),(ks l).Nodup→(ks (st l x u)).Nodup∧∀ y,y∈ks (st l x u)↔y=x∨y∈ks l:=by
 intro v0
 induction v0 with
 |nil =>
  intro x u _;refine⟨List.nodup_cons.mpr ⟨fun h=>bT h,List.nodup_nil⟩,fun y=>⟨fun h=>.inl (List.mem_singleton.mp h),fun h=>?_⟩⟩;rcases h with rfl | h
  ·exact List.mem_cons_self
  ·exact bT h
 |cons p r ih =>
  intro x u h;have h1:p.1∉ks r∧(ks r).Nodup:=List.nodup_cons.mp h;show(ks (if x=p.1 then (p.1,u)::r else p::st r x u)).Nodup∧∀ y,y∈ks (if x=p.1 then (p.1,u)::r else p::st r x u)↔y=x∨y∈p.1::ks r
  by_cases e:x=p.1
  ·rw[if_pos e];refine⟨h,fun y=>?_⟩;show y∈p.1::ks r↔_;rw[e];simp
  ·rw[if_neg e];obtain⟨i1,i2⟩:=ih x u h1.2;refine⟨List.nodup_cons.mpr ⟨fun hm=>?_,i1⟩,fun y=>?_⟩
   ·rcases(i2 p.1).mp hm with e' | e'
    ·exact e e'.symm
    ·exact h1.1 e'
   ·show y∈p.1::ks (st r x u)↔_;rw[List.mem_cons,i2,List.mem_cons];constructor
    ·rintro(a | a | a)<;>simp[a]
    ·rintro(a | a | a)<;>simp[a]
theorem zW:∀ {l:LP} (x:Str),(ks l).Nodup→(ks (dl l x)).Nodup∧(∀ y,y∈ks (dl l x)→y∈ks l)∧∀ y,lk (dl l x) y=if y=x then none else lk l y:=by
 intro v0
 induction v0 with
 |nil =>
  intro x _;exact⟨List.nodup_nil,fun y hy=>hy,fun y=>(ite_self none).symm⟩
 |cons p r ih =>
  intro x h;have h1:p.1∉ks r∧(ks r).Nodup:=List.nodup_cons.mp h;show(ks (if x=p.1 then r else p::dl r x)).Nodup∧(∀ y,y∈ks (if x=p.1 then r else p::dl r x)→y∈p.1::ks r)∧∀ y,lk (if x=p.1 then r else p::dl r x) y=if y=x then none else if y=p.1 then some p.2 else lk r y
  by_cases e:x=p.1
  ·rw[if_pos e];refine⟨h1.2,fun y hy=>List.mem_cons_of_mem _ hy,fun y=>?_⟩
   by_cases e':y=x
   ·rw[if_pos e'];refine ocs (lk r y) (fun hl=>?_) fun d hl=>?_
    ·try rewrite[hl]
     rfl
    ·try rewrite[hl]
     exact absurd (e▸e'▸sE hl) h1.1
   ·rw[if_neg e',if_neg (e▸e')]
  ·rw[if_neg e];obtain⟨i1,i2,i3⟩:=ih x h1.2;refine⟨List.nodup_cons.mpr ⟨fun hm=>h1.1 (i2 _ hm),i1⟩,fun y hy=>?_,fun y=>?_⟩
   ·rcases List.mem_cons.mp hy with rfl | hy
    ·simp
    ·exact List.mem_cons_of_mem _ (i2 y hy)
   ·show(if y=p.1 then some p.2 else lk (dl r x) y)=_;rw[i3]
    by_cases e':y=x
    ·subst e';rw[if_neg e,if_pos rfl,if_pos rfl]
    ·rw[if_neg e',if_neg e']
noncomputable def big:Nat:=10 ^ 29
inductive Sem(N:List Str):Nat→PyData→TT→Prop where
 |num {m:Nat} {i:Int}:i.natAbs < big→Sem N m (.int i) (.num i)
 |br {m:Nat} {l:LP} {f:Str→Option TT}:(ks l).Nodup→(∀ k∈ks l,k∈N)→(∀ k,(lk l k).isSome=(f k).isSome)→(∀ k d t,lk l k=some d→f k=some t→Sem N m d t)→Sem N (m+1) (.dict (mkd l)) (.br f)
structure Bld(N:List Str)(m:Nat)(l:LP)(f:Str→Option TT):Prop where
 nd:(ks l).Nodup
 sub:∀ k∈ks l,k∈N
 dom:∀ k,(lk l k).isSome=(f k).isSome
 sem:∀ k d t,lk l k=some d→f k=some t→Sem N m d t
variable {N:List Str} {m:Nat}
theorem Bld.toSem{l:LP}{f:Str→Option TT}(B:Bld N m l f):Sem N (m+1) (.dict (mkd l)) (.br f):=.br B.nd B.sub B.dom B.sem
inductive SemI(N:List Str):Nat→PyData→TT→Prop where
 |num {m:Nat} (i:Int) (h:i.natAbs < big):SemI N m (.int i) (.num i)
 |br (m:Nat) (l:LP) (f:Str→Option TT) (B:Bld N m l f):SemI N (m+1) (.dict (mkd l)) (.br f)
inductive SemE(N:List Str)(m:Nat)(d:PyData)(t:TT):Prop where
 |num (i:Int) (e1:d=.int i) (e2:t=.num i) (h:i.natAbs < big):SemE N m d t
 |br (m':Nat) (l:LP) (f:Str→Option TT) (e:m=m'+1) (e1:d=.dict (mkd l)) (e2:t=.br f) (B:Bld N m' l f):SemE N m d t
inductive SemB(N:List Str)(m:Nat)(d:PyData)(f:Str→Option TT):Prop where
 |mk (m':Nat) (l:LP) (e:m=m'+1) (e1:d=.dict (mkd l)) (B:Bld N m' l f):SemB N m d f
inductive SemF(N:List Str)(f:Str→Option TT):Nat→PyData→Prop where
 |mk (m:Nat) (l:LP) (B:Bld N m l f):SemF N f (m+1) (.dict (mkd l))
theorem Sem.inv{d:PyData}{t:TT}(h:Sem N m d t):SemI N m d t:=by
 cases h with
 |num h=>exact .num _ h
 |br a b c e=>exact .br _ _ _ ⟨a,b,c,e⟩
theorem Sem.inv'{d:PyData}{t:TT}(h:Sem N m d t):SemE N m d t:=by
 cases h with
 |num h=>exact .num _ rfl rfl h
 |br a b c e=>exact .br _ _ _ rfl rfl rfl ⟨a,b,c,e⟩
@[elab_as_elim] theorem Sem.by {motive:Nat→PyData→TT→Prop} {m:Nat} {d:PyData} {t:TT} (h:Sem N m d t) (h1:∀ (m:Nat) (i:Int),i.natAbs < big→motive m (.int i) (.num i)) (h2:∀ (m:Nat) (l:LP) (f:Str→Option TT),Bld N m l f→motive (m+1) (.dict (mkd l)) (.br f)):motive m d t:=by
 cases h with
 |num h=>exact h1 _ _ h
 |br a b c e=>exact h2 _ _ _ ⟨a,b,c,e⟩
@[elab_as_elim] theorem Sem.byB {motive:Nat→PyData→Prop} {f:Str→Option TT} {m:Nat} {d:PyData} (h:Sem N m d (.br f)) (h2:∀ (m:Nat) (l:LP),Bld N m l f→motive (m+1) (.dict (mkd l))):motive m d:=by
 cases h with
 |br a b c e=>exact h2 _ _ ⟨a,b,c,e⟩
theorem Sem.br_inv{d:PyData}{f:Str→Option TT}(h:Sem N m d (.br f)):SemF N f m d:=by
 cases h with
 |br a b c e=>exact⟨_,_,a,b,c,e⟩
theorem Sem.br_inv'{d:PyData}{f:Str→Option TT}(h:Sem N m d (.br f)):SemB N m d f:=by
 cases h with
 |br a b c e=>exact⟨_,_,rfl,rfl,a,b,c,e⟩
inductive BGet(N:List Str)(m:Nat)(l:LP)(k:Str)(t:TT):Prop where
 |mk (d:PyData) (h:lk l k=some d) (s:Sem N m d t):BGet N m l k t
inductive BGe'(N:List Str)(m:Nat)(f:Str→Option TT)(k:Str)(d:PyData):Prop where
 |mk (t:TT) (h:f k=some t) (s:Sem N m d t):BGe' N m f k d
inductive BKey(N:List Str)(m:Nat)(l:LP)(f:Str→Option TT)(k:Str):Prop where
 |mk (d:PyData) (t:TT) (h:lk l k=some d) (g:f k=some t) (s:Sem N m d t):BKey N m l f k
theorem Sem.num_inv{d:PyData}{i:Int}(h:Sem N m d (.num i)):d=.int i∧i.natAbs < big:=by
 cases h with
 |num h=>exact⟨rfl,h⟩
theorem Sem.mono:∀ {m m':Nat} {d:PyData} {t:TT},Sem N m d t→m≤m'→Sem N m' d t
 := by
 intro m
 induction m with
 |zero =>
  intro m' d t s h;cases s with
  |num h=>exact .num h
 |succ m ih =>
  intro m' d t s h;cases s with
  |num h=>exact .num h
  |br a b c e =>
   cases m' with
   |zero=>exact absurd h (Nat.not_succ_le_zero _)
   |succ m'=>exact .br a b c fun k d t h1 h2=>ih (e k d t h1 h2) (Nat.le_of_succ_le_succ h)
theorem Bld.mono{m':Nat}{l:LP}{f:Str→Option TT}(B:Bld N m l f)(h:m≤m'):Bld N m' l f:=⟨B.nd,B.sub,B.dom,fun k d t h1 h2=>(B.sem k d t h1 h2).mono h⟩
theorem Bld.nil:Bld N m [] fun _=>none:=⟨by simp[ks],by simp[ks],fun k=>rfl,fun k d t h=>by exact ns h⟩
theorem Bld.ext{l:LP}{f g:Str→Option TT}(B:Bld N m l f)(h:∀ k,f k=g k):Bld N m l g:=by
 have:f=g:=funext h;exact this▸B
theorem Bld.set{l:LP}{f:Str→Option TT}(B:Bld N m l f){k:Str}{d:PyData}{t:TT}(hk:k∈N)(h:Sem N m d t):Bld N m (st l k d) (upd f k (some t)):=by
 obtain⟨q1,q2⟩:=Py k d B.nd;refine⟨q1,fun y hy=>?_,fun y=>?_,fun y e u h1 h2=>?_⟩
 ·rcases(q2 y).mp hy with rfl | hy
  ·exact hk
  ·exact B.sub y hy
 ·rw[nU]
  by_cases e:y=k
  ·simp[upd,e]
  ·simp only[upd,if_neg e];exact B.dom y
 ·rw[nU] at h1
  by_cases e:y=k
  ·rw[if_pos e] at h1;simp only[upd,if_pos e] at h2;obtain rfl:=si h1;obtain rfl:=si h2;exact h
  ·rw[if_neg e] at h1;simp only[upd,if_neg e] at h2;exact B.sem y _ u h1 h2
theorem Bld.del{l:LP}{f:Str→Option TT}(B:Bld N m l f)(k:Str):Bld N m (dl l k) (upd f k none):=by
 obtain⟨q1,q2,q3⟩:=zW k B.nd;refine⟨q1,fun y hy=>B.sub y (q2 y hy),fun y=>?_,fun y e u h1 h2=>?_⟩
 ·rw[q3]
  by_cases e:y=k
  ·simp[upd,e]
  ·simp only[upd,if_neg e];exact B.dom y
 ·rw[q3] at h1
  by_cases e:y=k
  ·rw[if_pos e] at h1;exact ns h1
  ·rw[if_neg e] at h1;simp only[upd,if_neg e] at h2;exact B.sem y _ u h1 h2
theorem Bld.get{l:LP}{f:Str→Option TT}(B:Bld N m l f){k:Str}{t:TT}(h:f k=some t):BGet N m l k t:=by
 refine ocs (lk l k) (fun e=>?_) fun d e=>?_
 ·try rewrite[e]
  have:=B.dom k;simp only[e,h] at this;exact bft this
 ·try rewrite[e]
  exact⟨d,e,B.sem k d t e h⟩
theorem Bld.get'{l:LP}{f:Str→Option TT}(B:Bld N m l f){k:Str}{d:PyData}(h:lk l k=some d):BGe' N m f k d:=by
 refine ocs (f k) (fun e=>?_) fun t e=>?_
 ·try rewrite[e]
  have:=B.dom k;simp only[e,h] at this;exact btf this
 ·try rewrite[e]
  exact⟨t,e,B.sem k d t h e⟩
theorem Bld.none_iff{l:LP}{f:Str→Option TT}(B:Bld N m l f){k:Str}:f k=none↔lk l k=none:=by
 have:=B.dom k;cases e:f k<;>cases e':lk l k<;>simp_all
theorem Bld.key{l:LP}{f:Str→Option TT}(B:Bld N m l f){k:Str}(h:k∈ks l):BKey N m l f k:=by
 have h1:=kM.mpr h;refine ocs (lk l k) (fun e=>?_) fun d e=>?_
 ·try rewrite[e]
  rw[e] at h1;exact bft h1
 ·try rewrite[e]
  obtain⟨t,a,b⟩:=B.get' e;exact⟨d,t,e,a,b⟩
theorem Bld.mem{l:LP}{f:Str→Option TT}(B:Bld N m l f){k:Str}:k∈ks l↔(f k).isSome=true:=by
 rw[← B.dom,kM]
theorem sF{α:Type}[DecidableEq α]:∀ {a b:List α},a.Nodup→(∀ x∈a,x∈b)→a.length≤b.length:=by
 intro v0
 induction v0 with
 |nil =>
  intro _ _ _;exact Nat.zero_le _
 |cons x r ih =>
  intro b hn hs;obtain⟨h1,h2⟩:=List.nodup_cons.mp hn;have hx:=hs x (by simp);have:=ih (b:=b.erase x) h2 fun y hy=>(List.mem_erase_of_ne (fun e:y=x=>h1 (e▸hy))).mpr (hs y (by simp[hy]));simp only[List.length_erase_of_mem hx] at this;have hp:0 < b.length:=List.length_pos_of_mem hx;show r.length+1≤b.length;exact Do this hp
theorem Bld.len{l:LP}{f:Str→Option TT}(B:Bld N m l f):l.length≤N.length:=by
 have:=sF B.nd B.sub;simpa[ks] using this
inductive Out{α β:Type}(S:α→β→aA)(c:KN→KR→R V)(I:α→Prop)(E:X→Prop)(Q:V→Prop):Prop where
 |kn (a:α) (j:β) (hi:I a) (h:∀ kn kr,c kn kr=kn (S a j)):Out S c I E Q
 |exc (x:X) (hi:E x) (h:∀ kn kr,c kn kr=.exc x):Out S c I E Q
 |kr (v:V) (hi:Q v) (h:∀ kn kr,c kn kr=kr v):Out S c I E Q
theorem iP{α β:Type}{S:α→β→aA}{b:aA→KN→KR→R V}{t:Expr}{I:List PyData→α→Prop}{E:X→Prop}{Q:V→Prop} :
  ∀ {l p:List PyData} {a:α} {j:β},(∀ q d r a j,p++l=q++d::r→I q a→Out S (fun kn kr=>rb (ofP (aS t d (S a j))) fun σ=>b σ kn kr) (I (q++[d])) E Q)→I p a→Out S (aT b t l (S a j)) (I (p++l)) E Q
 | [],p,a,j,_,hi=>Out.kn a j (by simpa using hi) fun _ _=>rfl
 |d::r,p,a,j,h,hi=>by
  rcases h p d r a j rfl hi with ⟨a',j',hi',e⟩ | ⟨x,hx,e⟩ | ⟨v,hv,e⟩
  ·have e1:p++d::r=(p++[d])++r:=by simp
   have:=iP (S:=S) (b:=b) (t:=t) (l:=r) (p:=p++[d]) (a:=a') (j:=j') (I:=I) (E:=E) (Q:=Q) (fun q d' r' a j hq=>h q d' r' a j (e1.trans hq)) hi';rw[← e1] at this;rcases this with ⟨a2,j2,h2,e2⟩ | ⟨x,hx,e2⟩ | ⟨v,hv,e2⟩
   ·exact Out.kn a2 j2 h2 fun kn kr=>(e _ _).trans (e2 kn kr)
   ·exact Out.exc x hx fun kn kr=>(e _ _).trans (e2 kn kr)
   ·exact Out.kr v hv fun kn kr=>(e _ _).trans (e2 kn kr)
  ·exact Out.exc x hx fun kn kr=>e _ _
  ·exact Out.kr v hv fun kn kr=>e _ _
end Mine
namespace Mine
open PySem
section
variable {α β:Type}
theorem aF(a:α)(k:α→R β):rb (.ok a) k=k a:=rfl
theorem sG(x:X)(k:α→R β):rb (.exc x) k=.exc x:=rfl
theorem aM(a:α):ofP (.ok a)=.ok a:=rfl
theorem eO(a:α):nx (.ok a)=.ok a:=rfl
theorem eZ(a:α)(f:α→P β):P.bind (.ok a) f=f a:=rfl
theorem e6(a:α):ofO (some a)=.ok a:=rfl
theorem cJ(a b:α):(if true=true then a else b)=a:=rfl
theorem dQ(a b:α):(if false=true then a else b)=b:=rfl
end
theorem sH(b:Bool):tst (.ok (.fz (.bool b)))=.ok b:=rfl
theorem sI(b:Bool):cG (.fz (.bool b))=.ok b:=rfl
theorem e8(d:PyData):dOf (.fz d)=d:=rfl
theorem sJ(d:PyData):dOf (.own d)=d:=rfl
theorem cB(d:PyData):V.clear (.fz d)=.fz d:=rfl
theorem gL(d:PyData):V.clear (.own d)=.fz d:=rfl
theorem dR(d:PyData):bQ (.fz d)=.ok (.fz d):=rfl
theorem cO(d:PyData):rdv (.fz d)=.ok (.fz d):=rfl
theorem nV(d:PyData):c8 (.fz d)=.ok d:=rfl
theorem sK(d:PyData):c8 (.own d)=.ok d:=rfl
theorem sL(d:PyData)(k:V→R V):dP (.fz d) k=k (.fz d):=rfl
theorem sM(d:PyData)(k:V→R V):dP (.own d) k=k (.own d):=rfl
theorem nW(d:PyData):hU (.own d)=.ok d:=rfl
theorem sN:dF []=.ok []:=rfl
theorem sO(v:V)(r:List (R V)):dF (.ok v::r)=rb (dF r) fun vs=>.ok (v.clear::vs):=rfl
theorem sP(b:Bool):fzb (.ok b)=.ok (.fz (.bool b)):=rfl
theorem sQ(b:Bool):aV (.ok b)=.ok (.fz (.bool b)):=rfl
theorem sR(d:PyData):f9 (.fz d)=.ok d:=rfl
theorem Wr(i:Int):toI (.fz (.int i))=.ok (some i):=rfl
theorem sU:nD none=.ok none:=rfl
theorem sV(i:Int):nD (some (.ok (.fz (.int i))))=.ok (some i):=rfl
theorem sW(b:Bool):eH .Not (.fz (.bool b))=.ok (.fz (.bool !b)):=rfl
theorem sX(i:Int):eH .USub (.fz (.int i))=.ok (.fz (.int (-i))):=rfl
theorem sY:(!true)=false:=rfl
theorem sZ:(!false)=true:=rfl
theorem zX(l:LP)(x:Str):getItem (.dict (mkd l)) (.str x)=frz (lk l x):=by
 show frz (bP (mkd l) x)=_;rw[kL]
theorem dS{l:LP}{x:Str}{d:PyData}(h:lk l x=some d):getItem (.dict (mkd l)) (.str x)=.ok (.fz d):=by
 simp only[zX,h];rfl
theorem kN(l:LP)(x:Str):Mine.contains (.str x) (.dict (mkd l))=.ok (lk l x).isSome:=by
 show P.ok (bP (mkd l) x).isSome=_;rw[kL]
theorem e9(l:LP):Mine.items (.dict (mkd l))=.ok ((ks l).map .str):=by
 show P.ok ((mkd l).map (·.1))=_;rw[sB]
theorem kO{l:LP}(x:Str)(d:PyData)(h:l.length < aI):Mine.setItem (.dict (mkd l)) (.str x) d=.ok (.dict (mkd (st l x d))):=by
 show(if (mkd l).length < aI then P.ok (PyData.dict (dJ (mkd l) x d)) else .no)=_;rw[Px,if_pos h,zU]
theorem s5(l:List (PyData×PyData)):dU (.dict l)=true:=rfl
theorem s6(i:Int):dU (.int i)=false:=rfl
theorem s7(l:List (PyData×PyData)):eF (.dict l)=false:=rfl
theorem s8(i:Int):eF (.int i)=true:=rfl
theorem s9(i:Int):eQ (.int i)=false:=rfl
theorem tA(l:List (PyData×PyData)):eQ (.dict l)=false:=rfl
theorem zY:∀ bs:List Bool,bools? (bs.map PyData.bool)=some bs
 | []=>rfl
 |b::r=>by
  show(bools? (r.map PyData.bool)).map (b::·)=_;rw[zY r];rfl
theorem fV:∀ xs:List Str,strs? (xs.map PyData.str)=some xs
 | []=>rfl
 |b::r=>by
  show(strs? (r.map PyData.str)).map (b::·)=_;rw[fV r];rfl
theorem tB(bs:List Bool):bS (.list (bs.map PyData.bool))=.ok (.fz (.bool (bs.all id))):=by
 show fzb ((ofO (bools? (bs.map PyData.bool))).bind fun bs=>.ok (bs.all id))=_;rw[zY];rfl
theorem iQ{t:PyData→R Bool}{e:PyData→R V}{g:PyData→PyData}:∀ {l:List PyData},(∀ d∈l,t d=.ok true∧∃ v,e d=.ok v∧dOf v=g d)→aR t e l=.ok (l.map g):=by
 intro v0
 induction v0 with
 |nil =>
  intro _;exact rfl
 |cons d r ih =>
  intro h;obtain⟨h1,v,h2,h3⟩:=h d (by simp);show rb (nx (t d)) (fun b=>if b then rb (nx (e d)) fun v=>rb (aR t e r) fun xs=>.ok (dOf v::xs) else aR t e r)=_;simp only[h1,eO,aF,cJ,h2,eO,aF,ih fun d hd=>h d (List.mem_cons_of_mem _ hd),h3];rfl
theorem Pz{xs:List Str}{e:PyData→R V}{g:Str→Bool}(h:∀ x∈xs,e (.str x)=.ok (.fz (.bool (g x)))):aK bS (aO (.ok (xs.map .str)) (fun _=>.ok true) e)=.ok (.fz (.bool (xs.all g))):=by
 have:aR (fun _=>.ok true) e (xs.map .str)=.ok ((xs.map g).map .bool):=by
  rw[iQ (g:=fun d=>match d with | .str x=>.bool (g x) | d=>d) fun d hd=>?_]
  ·simp[Function.comp_def]
  ·obtain⟨x,hx,rfl⟩:=List.mem_map.mp hd;exact⟨rfl,_,h x hx,rfl⟩
 show rb (rb (rb (.ok (xs.map .str)) fun l=>aR (fun _=>.ok true) e l) fun r=>ofP (own (.list r))) (fun v=>ofP (bS (dOf v)))=_;simp only[aF,this];show ofP (bS (.list ((xs.map g).map .bool)))=_;simp only[tB];simp[Function.comp_def,ofP]
theorem tC{l:List PyData}{e:PyData→R V}{g:PyData→Bool}(h:∀ x∈l,e x=.ok (.fz (.bool (g x)))):aK bS (aO (.ok l) (fun _=>.ok true) e)=.ok (.fz (.bool (l.all g))):=by
 have:aR (fun _=>.ok true) e l=.ok ((l.map g).map .bool):=by
  simp only[iQ (g:=fun d=>.bool (g d)) fun d hd=>⟨rfl,_,h d hd,rfl⟩];simp[Function.comp_def]
 show rb (rb (rb (.ok l) fun l=>aR (fun _=>.ok true) e l) fun r=>ofP (own (.list r))) (fun v=>ofP (bS (dOf v)))=_;simp only[aF,this];show ofP (bS (.list ((l.map g).map .bool)))=_;simp only[tB];simp[Function.comp_def,ofP]
theorem zZ{t:PyData→R Bool}{g:Str→Bool}:∀ {xs:List Str},(∀ x∈xs,t (.str x)=.ok (g x))→aR t (fun d=>.ok (.fz d)) (xs.map .str)=.ok ((xs.filter g).map .str):=by
 intro v0
 induction v0 with
 |nil =>
  intro _;exact rfl
 |cons x r ih =>
  intro h;show rb (nx (t (.str x))) (fun b=>if b then rb (nx (.ok (.fz (.str x)))) fun v=>rb (aR t (fun d=>.ok (.fz d)) (r.map .str)) fun xs=>.ok (dOf v::xs) else aR t (fun d=>.ok (.fz d)) (r.map .str))=_;rw[h x (by simp),eO,aF,ih fun d hd=>h d (List.mem_cons_of_mem _ hd)];cases hg:g x
  ·rw[dQ,List.filter_cons_of_neg (by simp[hg])]
  ·rw[cJ,List.filter_cons_of_pos hg];rfl
noncomputable def aZ(p:Str×PyData):PyData:=.tuple [.str p.1,p.2]
theorem z0:∀ ps:LP,twos? (ps.map aZ)=some (mkd ps)
 | []=>rfl
 |p::r=>by
  show(twos? (r.map aZ)).map ((.str p.1,p.2)::·)=_;simp only[z0 r];rfl
theorem nX{ps:LP}(h:ps.length < 4096):b8 (.list (ps.map aZ))=.ok (.own (.dict (mkd (sts ps [])))):=by
 show((ofO (twos? (ps.map aZ))).bind fun l=>(ofO (keys? l)).bind fun l=>if l.length < 4096 then own (.dict (cK l [])) else .no)=_;simp only[z0,e6,eZ,mk_keys?,e6,eZ,if_pos h];show P.ok (V.own (.dict (cK ps (mkd []))))=_;simp only[zV]
theorem iR{N:List Str}{m:Nat}{F:Str→Option TT}:∀ {ps acc:LP} {f:Str→Option TT},Bld N m acc f→(∀ p∈ps,p.1∈N∧∃ t,F p.1=some t∧Sem N m p.2 t)→Bld N m (sts ps acc) fun k=>if k∈ks ps then F k else f k
 | [],acc,f,B,_=>B.ext fun k=>by simp[ks]
 |p::r,acc,f,B,h=>by
  obtain⟨h1,t,h2,h3⟩:=h p (by simp);refine(iR (F:=F) (B.set h1 h3) fun q hq=>h q (by simp[hq])).ext fun k=>?_;show(if k∈ks r then F k else upd f p.1 (some t) k)=if k∈p.1::ks r then F k else f k
  by_cases e1:k∈ks r
  ·simp[e1]
  ·by_cases e2:k=p.1
   ·subst e2;simp[e1,upd,h2]
   ·simp[e1,e2,upd]
theorem z6{N:List Str}{m:Nat}{F:Str→Option TT}{t:PyData→R Bool}{e:PyData→R V}:∀ {xs:List Str},(∀ x∈xs,x∈N∧((t (.str x)=.ok false∧F x=none)∨t (.str x)=.ok true∧∃ v d u,e (.str x)=.ok v∧dOf v=.tuple [.str x,d]∧F x=some u∧Sem N m d u)) →
  ∃ ps:LP,aR t e (xs.map .str)=.ok (ps.map aZ)∧ps.length≤xs.length∧(∀ k,k∈ks ps↔k∈xs∧(F k).isSome=true)∧∀ p∈ps,p.1∈N∧∃ u,F p.1=some u∧Sem N m p.2 u
 := by
 intro xs
 induction xs with
 |nil=>exact fun _=>⟨[],rfl,Nat.le_refl _,fun k=>⟨fun h=>bT h,fun h=>bT h.1⟩,fun p hp=>bT hp⟩
 |cons x r ih =>
  intro h;obtain⟨ps,e1,e2,e3,e4⟩:=ih fun y hy=>h y (List.mem_cons_of_mem _ hy);have hs:aR t e ((x::r).map .str)=rb (nx (t (.str x))) (fun b=>if b then rb (nx (e (.str x))) fun v=>rb (aR t e (r.map .str)) fun xs=>.ok (dOf v::xs) else aR t e (r.map .str)):=rfl;obtain⟨hN,⟨h1,h2⟩ | ⟨h1,v,d,u,h2,h3,h4,h5⟩⟩:=h x (by simp)
  ·refine⟨ps,?_,Nat.le_succ_of_le e2,fun k=>?_,e4⟩
   ·simp only[hs,h1,eO,aF,dQ,e1]
   ·simp only[e3 k]
    by_cases ek:k=x
    ·subst ek;simp[h2]
    ·simp[ek]
  ·refine⟨(x,d)::ps,?_,Nat.succ_le_succ e2,fun k=>?_,fun p hp=>?_⟩
   ·simp only[hs,h1,eO,aF,cJ,h2,eO,aF,e1,aF,h3];rfl
   ·show k∈x::ks ps↔_;simp only[List.mem_cons,e3 k]
    by_cases ek:k=x
    ·subst ek;simp[h4]
    ·simp[ek]
   ·rcases List.mem_cons.mp hp with rfl | hp
    ·exact⟨hN,u,h4,h5⟩
    ·exact e4 p hp
theorem z7{N:List Str}{m:Nat}{F:Str→Option TT}{t:PyData→R Bool}{e:PyData→R V}{xs:List Str}(hl:xs.length < 4096)(h:∀ x∈xs,x∈N∧((t (.str x)=.ok false∧F x=none)∨t (.str x)=.ok true∧∃ v d u,e (.str x)=.ok v∧dOf v=.tuple [.str x,d]∧F x=some u∧Sem N m d u)) :
  ∃ l:LP,aK b8 (aO (.ok (xs.map .str)) t e)=.ok (.own (.dict (mkd l)))∧Bld N m l fun k=>if k∈xs then F k else none:=by
 obtain⟨ps,e1,e2,e3,e4⟩:=z6 h;refine⟨sts ps [],?_,(iR (F:=F) Bld.nil e4).ext fun k=>?_⟩
 ·show rb (rb (rb (.ok (xs.map .str)) fun l=>aR t e l) fun r=>ofP (own (.list r))) (fun v=>ofP (b8 (dOf v)))=_;rw[aF,e1];show ofP (b8 (.list (ps.map aZ)))=_;rw[nX (Nat.lt_of_le_of_lt e2 hl)];rfl
 ·by_cases hk:k∈xs
  ·rw[if_pos hk];refine ocs (F k) (fun hF=>?_) fun u hF=>?_
   ·try rewrite[hF]
    rw[if_neg];intro hc;have:=((e3 k).mp hc).2;rw[hF] at this;exact bft this
   ·try rewrite[hF]
    rw[if_pos ((e3 k).mpr ⟨hk,by rw[hF];rfl⟩)]
  ·rw[if_neg hk,if_neg fun hc=>hk ((e3 k).mp hc).1]
theorem Bld.all{N:List Str}{m:Nat}{l:LP}{f F:Str→Option TT}(B:Bld N m l f)(h:∀ k,f k=none→F k=none){l':LP}{m':Nat}(C:Bld N m' l' fun k=>if k∈ks l then F k else none):Bld N m' l' F :=
 C.ext fun k=>by
  by_cases hk:k∈ks l
  ·rw[if_pos hk]
  ·rw[if_neg hk];refine(h k ?_).symm;refine ocs (f k) (fun e=>?_) fun t e=>?_
   ·try rewrite[e]
    rfl
   ·try rewrite[e]
    exact absurd (B.mem.mpr (by rw[e];rfl)) hk
theorem nY(xs:List Str):eqO (.list (xs.map .str)) (.list [])=.ok xs.isEmpty:=by
 cases xs with
 |nil=>rfl
 |cons x r=>rfl
end Mine
namespace Mine
open PySem
end Mine
namespace Mine
open PySem
noncomputable def inL(c:Nat):Bool:=Txt.contains (so "abcdefghijklmnopqrstuvwxyz") ⟨#[c]⟩
structure okN(x:Str):Prop where
 lo:1≤x.cps.size
 hi:x.cps.size≤8
 let_:∀ c∈x.cps.toList,inL c=true∧c < 16 ^ 8
theorem gM(n:Nat){x:Str}(h:okN x):rn (n+1) "is_name" [.fz (.str x)]=.ok (.fz (.bool true)):=by
 simp only[M8];have h1:decide ((1:Int)≤(x.cps.size:Int))=true:=by have:=h.lo;simp;exact uN this
 have h2:decide ((x.cps.size:Int)≤8)=true:=by have:=h.hi;simp;exact Dp this
 have hc:c7 (.ok (.fz (.int 1))) .LtE (ofP (aU (.str x))) .LtE (.ok (.fz (.int 8)))=.ok (.fz (.bool true)):=by
  show aV (if decide ((1:Int)≤(x.cps.size:Int))=true then .ok (decide ((x.cps.size:Int)≤8)) else .ok false)=_;simp only[h1,cJ,h2];rfl
 have ha:aK bS (aO (ofP (items (.str x))) (fun _=>.ok true) (fun d1=>(aV (ofP (cmp .In d1 (.str (so "abcdefghijklmnopqrstuvwxyz")))))))=.ok (.fz (.bool true)):=by
  refine(tC (l:=x.cps.toList.map bF) (g:=fun _=>true) fun d hd=>?_).trans (by simp);obtain⟨c,hc,rfl⟩:=List.mem_map.mp hd;show R.ok (V.fz (.bool (inL c)))=_;simp only[(h.let_ c hc).1]
 simp only[hc,ha];rfl
theorem P0(n:Nat)(d:PyData):rn (n+1) "is_whole" [.fz d]=.ok (.fz (.bool (eF d&&!eQ d))):=by
 simp only[M9];cases eF d<;>cases eQ d<;>rfl
structure Wld(N:List Str):Prop where
 len:N.length=14
 nd:N.Nodup
 ok:∀ x∈N,okN x
variable {N:List Str} {m:Nat}
theorem Bld.lt(H:Wld N){l:LP}{f:Str→Option TT}(B:Bld N m l f){k:Nat}(hk:14 < k):l.length < k:=by
 have:=B.len;simp only[H.len] at this;exact Dq hk this
@[elab_as_elim] theorem exnE {motive:Nat→Prop} {a c x:Nat} (n:Nat) (h:a+c≤n) (i:x≤n) (g:∀ k,x≤k+c→motive (k+c)):motive n:=by
 have e:=Nat.sub_add_cancel (Nat.le_trans (Nat.le_add_left c a) h);rw[← e];exact g _ (by rw[e];exact i)
theorem fd{a b k c:Nat}(h:a+k+c≤b+c):a≤b:=Nat.le_trans (Nat.le_add_right a k) (Nat.le_of_add_le_add_right h)
theorem mx{k x y r s:Nat}(h:k*max x y+r≤s):k*x+r≤s∧k*y+r≤s:=⟨Nat.le_trans (Nat.add_le_add_right (Nat.mul_le_mul_left k (Nat.le_max_left x y)) r) h,Nat.le_trans (Nat.add_le_add_right (Nat.mul_le_mul_left k (Nat.le_max_right x y)) r) h⟩
theorem fA(l:LP):(ks l).length=l.length:=by simp[ks]
inductive Gives(r:R V)(P:PyData→Prop):Prop where
 |mk (v:V) (d:PyData) (e:r=.ok v) (c:v.clear=.fz d) (p:P d):Gives r P
theorem kP{v:V}{d:PyData}(h:v.clear=.fz d):dOf v=d:=by
 cases v with
 |fz=>cases h;rfl
 |own=>cases h;rfl
 |ex=>cases h
theorem Ws{f:List V→R V}{r:R V}{v:V}{d:PyData}(h:r=.ok v)(hv:v.clear=.fz d):aG f [r]=f [.fz d]:=by
 rw[h];show f [v.clear]=_;rw[hv]
theorem z8{α β:Type}{S:α→β→aA}{b:aA→KN→KR→R V}{t:Expr}{I:List Str→α→Prop}{E:X→Prop}{Q:V→Prop} :
  ∀ {l p:List Str} {a:α} {j:β},(∀ q d r a j,p++l=q++d::r→I q a→Out S (fun kn kr=>rb (ofP (aS t (.str d) (S a j))) fun σ=>b σ kn kr) (I (q++[d])) E Q)→I p a→Out S (aT b t (l.map .str) (S a j)) (I (p++l)) E Q
 | [],p,a,j,_,hi=>Out.kn a j (by simpa using hi) fun _ _=>rfl
 |d::r,p,a,j,h,hi=>by
  rcases h p d r a j rfl hi with ⟨a',j',hi',e⟩ | ⟨x,hx,e⟩ | ⟨v,hv,e⟩
  ·have e1:p++d::r=(p++[d])++r:=by simp
   have:=z8 (S:=S) (b:=b) (t:=t) (l:=r) (p:=p++[d]) (a:=a') (j:=j') (I:=I) (E:=E) (Q:=Q) (fun q d' r' a j hq=>h q d' r' a j (e1.trans hq)) hi';rw[← e1] at this;rcases this with ⟨a2,j2,h2,e2⟩ | ⟨x,hx,e2⟩ | ⟨v,hv,e2⟩
   ·exact Out.kn a2 j2 h2 fun kn kr=>(e _ _).trans (e2 kn kr)
   ·exact Out.exc x hx fun kn kr=>(e _ _).trans (e2 kn kr)
   ·exact Out.kr v hv fun kn kr=>(e _ _).trans (e2 kn kr)
  ·exact Out.exc x hx fun kn kr=>e _ _
  ·exact Out.kr v hv fun kn kr=>e _ _
theorem z9{β:Type}{S:β→aA}{b:aA→KN→KR→R V}{t:Expr}{c:Str→Bool}{v:V}{xs:List Str}(h:∀ x∈xs,∀ j,∃ j',∀ kn kr,(rb (ofP (aS t (.str x) (S j))) fun σ=>b σ kn kr)=if c x=true then kn (S j') else kr v) :
  ∀ j,∃ j',∀ kn kr,aT b t (xs.map .str) (S j) kn kr=if xs.all c=true then kn (S j') else kr v:=by
 induction xs with
 |nil=>exact fun j=>⟨j,fun _ _=>rfl⟩
 |cons x xs ih =>
  intro j;obtain⟨j1,e1⟩:=h x List.mem_cons_self j;obtain⟨j2,e2⟩:=ih (fun x hx=>h x (List.mem_cons_of_mem _ hx)) j1;refine⟨j2,fun kn kr=>(e1 _ kr).trans ?_⟩;rw[List.all_cons,e2];cases c x<;>rfl
theorem P1{q r l:List Str}{x:Str}(h:[]++l=q++x::r):x∈l:=by
 have:x∈q++x::r:=by simp
 simp only[← h] at this;simpa using this
theorem P2(H:Wld N){β:Type}{S:LP→β→aA}{b:aA→KN→KR→R V}{t:Expr}{xs:List Str}(F:Str→Option TT){E:X→Prop}(P:Str→Prop){j:β}
  (h:∀ q x r,[]++xs=q++x::r→(∀ y∈q,P y)→∀ a j,a.length < aI→x∈N∧((P x∧F x=none∧∃ j',∀ kn kr,(rb (ofP (aS t (.str x) (S a j))) fun σ=>b σ kn kr)=kn (S a j')) ∨
   (P x∧∃ d u j',F x=some u∧Sem N m d u∧∀ kn kr,(rb (ofP (aS t (.str x) (S a j))) fun σ=>b σ kn kr)=kn (S (st a x d) j')) ∨
   (∃ e,E e∧∀ kn kr,(rb (ofP (aS t (.str x) (S a j))) fun σ=>b σ kn kr)=.exc e))) :
  (∃ a j',Bld N m a (fun k=>if k∈xs then F k else none)∧(∀ x∈xs,P x)∧∀ kn kr,aT b t (xs.map .str) (S [] j) kn kr=kn (S a j'))∨∃ e,E e∧∀ kn kr,aT b t (xs.map .str) (S [] j) kn kr=.exc e:=by
 have:=z8 (S:=S) (b:=b) (t:=t) (l:=xs) (p:=[]) (a:=[]) (j:=j) (I:=fun p a=>Bld N m a (fun k=>if k∈p then F k else none)∧∀ x∈p,P x) (E:=E) (Q:=fun _=>False) (fun q x r a j hq hi=>?_) ⟨Bld.nil.ext fun k=>by simp,fun x hx=>by exact bT hx⟩
 ·rcases this with ⟨a,j,h1,h2⟩ | ⟨e,h1,h2⟩ | ⟨v,hv,_⟩
  ·exact .inl ⟨a,j,h1.1,h1.2,h2⟩
  ·exact .inr ⟨e,h1,h2⟩
  ·exact hv.elim
 ·have hP:P x→∀ y∈q++[x],P y:=fun hx y hy=>by
   rcases List.mem_append.mp hy with hy | hy
   ·exact hi.2 y hy
   ·simp only[List.mem_singleton.mp hy];exact hx
  obtain⟨hN,⟨h0,h1,j',h2⟩ | ⟨h0,d,u,j',h1,h2,h3⟩ | ⟨e,h1,h2⟩⟩:=h q x r hq hi.2 a j (hi.1.lt H (by decide))
  ·refine Out.kn a j' ⟨hi.1.ext fun k=>?_,hP h0⟩ h2
   by_cases e:k=x
   ·subst e;simp[h1]
   ·simp[e]
  ·refine Out.kn (st a x d) j' ⟨(hi.1.set hN h2).ext fun k=>?_,hP h0⟩ h3
   by_cases e:k=x
   ·subst e;simp[h1,upd]
   ·simp[e,upd]
  ·exact Out.exc e h1 h2
theorem P3(H:Wld N){β:Type}{S:LP→β→aA}{b:aA→KN→KR→R V}{t:Expr}{xs:List Str}(F:Str→Option TT){E:X→Prop}{j:β}
  (h:∀ x∈xs,∀ a j,a.length < aI→x∈N∧((F x=none∧∃ j',∀ kn kr,(rb (ofP (aS t (.str x) (S a j))) fun σ=>b σ kn kr)=kn (S a j')) ∨
   (∃ d u j',F x=some u∧Sem N m d u∧∀ kn kr,(rb (ofP (aS t (.str x) (S a j))) fun σ=>b σ kn kr)=kn (S (st a x d) j')) ∨
   (∃ e,E e∧∀ kn kr,(rb (ofP (aS t (.str x) (S a j))) fun σ=>b σ kn kr)=.exc e))) :
  (∃ a j',Bld N m a (fun k=>if k∈xs then F k else none)∧∀ kn kr,aT b t (xs.map .str) (S [] j) kn kr=kn (S a j'))∨∃ e,E e∧∀ kn kr,aT b t (xs.map .str) (S [] j) kn kr=.exc e:=by
 rcases P2 H (S:=S) (b:=b) (t:=t) (xs:=xs) (j:=j) (m:=m) F (E:=E) (fun _=>True) (fun q x r hq _ a j ha=>(h x (P1 hq) a j ha).imp id (Or.imp (fun h=>⟨trivial,h⟩) (Or.imp (fun h=>⟨trivial,h⟩) id))) with ⟨a,j',h1,_,h2⟩ | h
 ·exact .inl ⟨a,j',h1,h2⟩
 ·exact .inr h
end Mine
namespace Mine
open PySem
noncomputable def tl:PyData→List PyData
 | .tuple l=>l
 |_=>[]
noncomputable def enc:WW→PyData
 | .whole=>.tuple [.str (so "whole")]
 | .pick n=>.tuple [.str (so "pick"),.str n]
 | .call a b=>.tuple [.str (so "call"),.str a,.str b]
 | .sift f l=>.tuple [.str (so "sift"),.str f,.int l]
 | .join a b fs=>.tuple [.str (so "join"),.str a,.str b,.tuple (fs.map .str)]
 | .each v=>.tuple [.str (so "each"),enc v]
 | .andThen a b=>.tuple [.str (so "then"),enc a,enc b]
 | .beside r=>.tuple [.str (so "beside"),enc r]
 | .bnil=>.tuple []
 | .bcons n p v r=>.tuple (.tuple [.str n,.str p,enc v]::tl (enc r))
noncomputable def a8(r:WW):List PyData:=tl (enc r)
theorem gN{r:WW}(h:r.isRows=true):enc r=.tuple (a8 r):=by
 cases r<;>first | rfl | cases h
noncomputable def W.hgt:WW→Nat
 | .each v=>v.hgt+1
 | .andThen a b=>max a.hgt b.hgt+1
 | .beside r=>r.hgt+1
 | .bcons _ _ v r=>max v.hgt r.hgt
 |_=>0
noncomputable def okW(N:List Str):WW→Prop
 | .whole=>True
 | .pick n=>n∈N
 | .call a b=>a∈N∧b∈N∧a≠b
 | .sift f l=>f∈N∧l.natAbs < 10 ^ 30
 | .join a b fs=>(a∈N∧b∈N∧a≠b)∧(1≤fs.length∧fs.length≤6)∧fs.Nodup∧∀ f∈fs,f∈N
 | .each v=>okW N v∧v.isRows=false
 | .andThen a b=>(okW N a∧a.isRows=false)∧okW N b∧b.isRows=false
 | .beside r=>(okW N r∧r.isRows=true)∧1≤r.names.length∧r.names.length≤6
 | .bnil=>True
 | .bcons n p v r=>(n∈N∧p∈N)∧(okW N v∧v.isRows=false)∧(okW N r∧r.isRows=true)∧n∉r.names∧p∉r.parts
variable {N:List Str}
theorem okW.wf:∀ {w:WW},okW N w→w.wf:=by
 intro w
 induction w with
 |call a b=>exact fun h=>h.2.2
 |join a b fs=>exact fun h=>h.1.2.2
 |each v ih=>exact fun h=>⟨ih h.1,h.2⟩
 |andThen a b iha ihb=>exact fun h=>⟨⟨iha h.1.1,h.1.2⟩,ihb h.2.1,h.2.2⟩
 |beside r ih=>exact fun h=>⟨ih h.1.1,h.1.2⟩
 |bcons n p v r ihv ihr=>exact fun h=>⟨⟨ihv h.2.1.1,h.2.1.2⟩,⟨ihr h.2.2.1.1,h.2.2.1.2⟩,h.2.2.2⟩
 |_=>exact fun _=>trivial
theorem P4:∀ {l:List Str},l.Nodup→bU l=l:=by
 intro v0
 induction v0 with
 |nil =>
  intro _;exact rfl
 |cons a r ih =>
  intro h;obtain⟨h1,h2⟩:=List.nodup_cons.mp h;show(if r.contains a then bU r else a::bU r)=_;rw[if_neg (by simpa using h1),ih h2]
theorem Aa{l:List Str}(h:l.Nodup)(hl:l.length < 64):dL (.tuple (l.map .str))=.ok (.fz (.int l.length)):=by
 show((ofO (strs? (l.map .str))).bind fun ss=>if ss.length < 64 then fz (.int (bU ss.reverse).length) else .no)=_;rw[fV,e6,eZ,if_pos hl,P4 (by simpa[List.Nodup,List.pairwise_reverse,ne_comm] using h),List.length_reverse];rfl
theorem P5{l:List Str}(h:l.Nodup)(hl:l.length < 64):dL (.list (l.map .str))=.ok (.fz (.int l.length)):=Aa h hl
theorem Ab(H:Wld N)(n:Nat){a b:Str}(ha:a∈N)(hb:b∈N)(hab:a≠b):rn (n+2) "are_two_names" [.fz (.str a),.fz (.str b)]=.ok (.fz (.bool true)):=by
 simp only[Nc,gM n (H.ok a ha),gM n (H.ok b hb)];show R.ok (V.fz (.bool !(a==b)))=_;simp only[beq_false_of_ne hab];rfl
theorem P6(n:Nat){l:Int}(hl:l.natAbs < 10 ^ 30):rn (n+2) "is_least" [.fz (.int l)]=.ok (.fz (.bool true)):=by
 rw[Nd,P0];show R.ok (V.fz (.bool (decide ((if l < 0 then -l else l) < (10 ^ 30:Int)))))=_;congr;rw[decide_eq_true_eq]
 split<;>omega
theorem Ac{α:Type}{l:List α}(h1:1≤l.length)(h2:l.length≤6):aV (if decide ((1:Int)≤(l.length:Int))=true then R.ok (decide ((l.length:Int)≤6)) else R.ok false)=.ok (.fz (.bool true)):=by
 have e1:decide ((1:Int)≤(l.length:Int))=true:=by simp;exact uN h1
 have e2:decide ((l.length:Int)≤6)=true:=by simp;exact Dr h2
 simp only[e1,cJ,e2];rfl
theorem tD{l:List Str}{r:List PyData}{d:PyData}(hd:d=.tuple (l.map .str)∨d=.list (l.map .str))(h:l.Nodup)(hl:l.length < 64)(hr:r.length=l.length):aD (aK dL (.ok (.fz d))) .Eq (ofP (aU (.tuple r)))=.ok (.fz (.bool true)):=by
 show rb (ofP (dL d)) (fun a=>aV (ofP (cmp .Eq (dOf a) (.int r.length))))=_;rw[show dL d=.ok (.fz (.int l.length)) from hd.elim (fun e=>e▸Aa h hl) fun e=>e▸P5 h hl,hr];show R.ok (V.fz (.bool ((l.length:Int)==(l.length:Int))))=_;simp
theorem P7(H:Wld N)(n:Nat){fs:List Str}(h1:1≤fs.length)(h2:fs.length≤6)(hn:fs.Nodup)(hN:∀ f∈fs,f∈N):rn (n+2) "are_fields" [.fz (.tuple (fs.map .str))]=.ok (.fz (.bool true)):=by
 have e0:c7 (.ok (.fz (.int 1))) .LtE (ofP (aU (.tuple (fs.map .str)))) .LtE (.ok (.fz (.int 6)))=.ok (.fz (.bool true)):=Ac (l:=fs.map PyData.str) (by simpa using h1) (by simpa using h2);have e1:aK bS (aO (ofP (items (.tuple (fs.map .str)))) (fun d1=>(.ok true)) (fun d1=>(rn (n+1) "is_name" [.fz d1])))=.ok (.fz (.bool true)) :=
  (Pz (g:=fun _=>true) fun x hx=>gM n (H.ok x (hN x hx))).trans (by simp)
 rw[Nb,e0,e1,tD (.inl rfl) hn (by exact uO h2) (by simp)];rfl
theorem P8:∀ {r:WW},r.isRows=true→okW N r→(aR (fun _=>.ok true) (fun d=>ofP (getItem d (.int 0))) (a8 r)=.ok (r.names.map .str)∧aR (fun _=>.ok true) (fun d=>ofP (getItem d (.int 1))) (a8 r)=.ok (r.parts.map .str))∧(r.names.Nodup∧r.parts.Nodup)∧(a8 r).length=r.names.length∧r.parts.length=r.names.length:=by
 intro r
 induction r with
 |bnil=>exact fun _ _=>⟨⟨rfl,rfl⟩,⟨List.nodup_nil,List.nodup_nil⟩,rfl,rfl⟩
 |bcons n p v r ihv ihr =>
  intro _ h;obtain⟨⟨i1,i2⟩,⟨i3,i4⟩,i5,i6⟩:=ihr h.2.2.1.2 h.2.2.1.1;refine⟨⟨?_,?_⟩,⟨List.nodup_cons.mpr ⟨h.2.2.2.1,i3⟩,List.nodup_cons.mpr ⟨h.2.2.2.2,i4⟩⟩,congrArg (·+1) i5,congrArg (·+1) i6⟩
  ·show rb (aR (fun _=>.ok true) (fun d=>ofP (getItem d (.int 0))) (a8 r)) (fun xs=>.ok (.str n::xs))=_;rw[i1];rfl
  ·show rb (aR (fun _=>.ok true) (fun d=>ofP (getItem d (.int 1))) (a8 r)) (fun xs=>.ok (.str p::xs))=_;rw[i2];rfl
 |_=>exact fun h=>by exact bft h
theorem P9(n:Nat){r:WW}(hr:r.isRows=true)(ho:okW N r)(h1:1≤r.names.length)(h2:r.names.length≤6)(h:∀ d∈a8 r,rn n "is_row" [.fz d]=.ok (.fz (.bool true))):rn (n+1) "is_beside" [.fz (enc r)]=.ok (.fz (.bool true)):=by
 obtain⟨⟨i1,i2⟩,⟨i3,i4⟩,i5,i6⟩:=P8 hr ho;simp only[gN hr,Na];have e0:c7 (.ok (.fz (.int 1))) .LtE (ofP (aU (.tuple (a8 r)))) .LtE (.ok (.fz (.int 6)))=.ok (.fz (.bool true)):=Ac (l:=a8 r) (by exact Ds h1 i5) (by exact Dt h2 i5);have e1:aK bS (aO (ofP (items (.tuple (a8 r)))) (fun d1=>(.ok true)) (fun d1=>(rn n "is_row" [.fz d1])))=.ok (.fz (.bool true)) :=
  (tC (l:=a8 r) (g:=fun _=>true) h).trans (by simp)
 have e2:aO (ofP (items (.tuple (a8 r)))) (fun _=>.ok true) (fun d=>ofP (getItem d (.int 0)))=.ok (.own (.list (r.names.map .str))):=by
  show rb (aR (fun _=>.ok true) (fun d=>ofP (getItem d (.int 0))) (a8 r)) (fun r=>ofP (own (.list r)))=_;simp only[i1];rfl
 have e3:aO (ofP (items (.tuple (a8 r)))) (fun _=>.ok true) (fun d=>ofP (getItem d (.int 1)))=.ok (.own (.list (r.parts.map .str))):=by
  show rb (aR (fun _=>.ok true) (fun d=>ofP (getItem d (.int 1))) (a8 r)) (fun r=>ofP (own (.list r)))=_;simp only[i2];rfl
 simp only[e0,e1,e2,e3];show rb (a9 (aD (aK dL (.ok (.fz (.list (r.names.map .str))))) .Eq (ofP (aU (.tuple (a8 r))))) (aD (aK dL (.ok (.fz (.list (r.parts.map .str))))) .Eq (ofP (aU (.tuple (a8 r)))))) R.ok=_;rw[tD (.inr rfl) i3 (by exact uO h2) i5,tD (.inr rfl) i4 (by exact Du h2 i6) (by exact Dv i5 i6)];rfl
section
theorem Qa(n:Nat):rn (n+1) "is_view" [.fz (enc .whole)]=.ok (.fz (.bool true)):=by kernel_rfl
theorem Qb(n:Nat)(x:Str):rn (n+1) "is_view" [.fz (enc (.pick x))]=rb (rn n "is_name" [.fz (.str x)]) R.ok:=by kernel_rfl
theorem Qc(n:Nat)(x y:Str):rn (n+1) "is_view" [.fz (enc (.call x y))]=rb (rn n "are_two_names" [.fz (.str x),.fz (.str y)]) R.ok:=by kernel_rfl
theorem Qd(n:Nat)(x:Str)(l:Int):rn (n+1) "is_view" [.fz (enc (.sift x l))]=rb (a9 (rn n "is_name" [.fz (.str x)]) (rn n "is_least" [.fz (.int l)])) R.ok:=by kernel_rfl
theorem Qe(n:Nat)(x y:Str)(fs:List Str):rn (n+1) "is_view" [.fz (enc (.join x y fs))]=rb (a9 (rn n "are_two_names" [.fz (.str x),.fz (.str y)]) (rn n "are_fields" [.fz (.tuple (fs.map .str))])) R.ok:=by kernel_rfl
theorem Qf(n:Nat)(v:WW):rn (n+1) "is_view" [.fz (enc (.each v))]=rb (rn n "is_view" [.fz (enc v)]) R.ok:=by kernel_rfl
theorem Qg(n:Nat)(a b:WW):rn (n+1) "is_view" [.fz (enc (.andThen a b))]=rb (a9 (rn n "is_view" [.fz (enc a)]) (rn n "is_view" [.fz (enc b)])) R.ok:=by kernel_rfl
theorem Qh(n:Nat)(r:WW):rn (n+1) "is_view" [.fz (enc (.beside r))]=rb (rn n "is_beside" [.fz (enc r)]) R.ok:=by kernel_rfl
theorem Qi(n:Nat)(x y:Str)(v:WW):rn (n+1) "is_row" [.fz (.tuple [.str x,.str y,enc v])]=rb (a9 (rn n "is_name" [.fz (.str x)]) (a9 (rn n "is_name" [.fz (.str y)]) (rn n "is_view" [.fz (enc v)]))) R.ok:=by kernel_rfl
end
noncomputable def Qj(w:WW):Prop:=∀ n,3*w.hgt+3≤n→rn n "is_view" [.fz (enc w)]=.ok (.fz (.bool true))
noncomputable def Qk(w:WW):Prop:=∀ n,3*w.hgt+4≤n→∀ d∈a8 w,rn n "is_row" [.fz d]=.ok (.fz (.bool true))
structure ViewS(w:WW):Prop where
 a:w.isRows=false→Qj w
 b:w.isRows=true→Qk w
theorem Ad(H:Wld N):∀ {w:WW},okW N w→ViewS w:=by
 intro w
 induction w with
 |whole=>exact fun _=>⟨fun _ n hn=>exnE (c:=1) n hn hn fun n _=>Qa n,fun h=>by exact bft h⟩
 |pick x=>exact fun h=>⟨fun _ n hn=>by
   refine exnE (c:=2) n hn hn fun n hn=>?_;simp only[Qb,gM n (H.ok x h)];rfl,fun h=>by exact bft h⟩
 |call a b=>exact fun h=>⟨fun _ n hn=>by
   refine exnE (c:=3) n hn hn fun n hn=>?_;simp only[Qc,Ab H n h.1 h.2.1 h.2.2];rfl,fun h=>by exact bft h⟩
 |sift x l=>exact fun h=>⟨fun _ n hn=>by
   refine exnE (c:=3) n hn hn fun n hn=>?_;simp only[Qd,gM (n+1) (H.ok x h.1),P6 n h.2];rfl,fun h=>by exact bft h⟩
 |join a b fs=>exact fun h=>⟨fun _ n hn=>by
   refine exnE (c:=3) n hn hn fun n hn=>?_;simp only[Qe,Ab H n h.1.1 h.1.2.1 h.1.2.2,P7 H n h.2.1.1 h.2.1.2 h.2.2.1 h.2.2.2];rfl,fun h=>by exact bft h⟩
 |each v ih=>exact fun h=>⟨fun _ n hn=>by
   have hn:3*(v.hgt+1)+3≤n:=hn;refine exnE (c:=1) n hn hn fun n hn=>?_;simp only[Qf,(ih h.1).1 h.2 n (fd (k:=2) (c:=1) hn)];rfl,fun h=>by exact bft h⟩
 |andThen a b iha ihb=>exact fun h=>⟨fun _ n hn=>by
   have hn:3*(max a.hgt b.hgt+1)+3≤n:=hn;refine exnE (c:=1) n hn hn fun n hn=>?_;simp only[Qg,(iha h.1.1).1 h.1.2 n (mx (fd (k:=2) (c:=1) hn)).1,(ihb h.2.1).1 h.2.2 n (mx (k:=3) (r:=3) (fd (k:=2) (c:=1) hn)).2];rfl,fun h=>by exact bft h⟩
 |beside r ih=>exact fun h=>⟨fun _ n hn=>by
   have hn:3*(r.hgt+1)+3≤n:=hn;refine exnE (c:=2) n hn hn fun n hn=>?_;simp only[Qh,P9 n h.1.2 h.1.1 h.2.1 h.2.2 fun d hd=>(ih h.1.1).2 h.1.2 n (fd (k:=0) (c:=2) hn) d hd];rfl,fun h=>by exact bft h⟩
 |bnil=>exact fun _=>⟨fun h=>(by cases h),fun _ n _ d hd=>by cases hd⟩
 |bcons x y v r ihv ihr =>
  intro h;refine⟨fun h=>(by exact btf h),fun _ n hn d hd=>?_⟩;have hn:3*(max v.hgt r.hgt)+4≤n:=hn;rcases List.mem_cons.mp (show d∈.tuple [.str x,.str y,enc v]::a8 r from hd) with rfl | hd
  ·refine exnE (c:=2) n hn hn fun n hn=>?_;simp only[Qi,gM n (H.ok x h.1.1),gM n (H.ok y h.1.2),(ihv h.2.1.1).1 h.2.1.2 (n+1) (fd (k:=0) (c:=1) (mx hn).1)];rfl
  ·exact(ihr h.2.2.1.1).2 h.2.2.1.2 n (mx hn).2 d hd
end Mine
namespace Mine
open PySem
variable {N:List Str} {m:Nat}
noncomputable def W.grow:WW→Nat
 | .each v=>v.grow
 | .andThen a b=>a.grow+b.grow
 | .beside r=>r.grow
 | .bcons _ _ v r=>v.grow+r.grow
 | .bnil=>0
 |_=>1
theorem n0{α:Type}{o:Option α}(h:o.isSome=true):∃ x,o=some x:=by
 cases o with
 |none=>exact bft h
 |some x=>exact⟨x,rfl⟩
theorem Ae:∀ {l:LP} {p:Str×PyData},(ks l).Nodup→p∈l→lk l p.1=some p.2
 |q::r,p,h,hp=>by
  obtain⟨h1,h2⟩:=List.nodup_cons.mp (show(q.1::ks r).Nodup from h);show(if p.1=q.1 then some q.2 else lk r p.1)=_;rcases List.mem_cons.mp hp with rfl | hp
  ·rw[if_pos rfl]
  ·rw[if_neg fun e:p.1=q.1=>h1 (e▸List.mem_map_of_mem (f:=(·.1)) hp),Ae h2 hp]
theorem Bld.upd{l1 l2:LP}{f g:Str→Option TT}(B:Bld N m l1 f)(C:Bld N m l2 g):Bld N m (sts l2 l1) fun k=>(g k).or (f k):=by
 refine(iR (F:=g) B fun p hp=>?_).ext fun k=>?_
 ·have h:=Ae C.nd hp;obtain⟨t,a,b⟩:=C.get' h;exact⟨C.sub _ (sE h),t,a,b⟩
 ·by_cases hk:k∈ks l2
  ·obtain⟨d,t,_,h2,_⟩:=C.key hk;rw[if_pos hk,h2];rfl
  ·have:g k=none:=by
    refine ocs (g k) (fun e=>?_) fun t e=>?_
    ·try rewrite[e]
     rfl
    ·try rewrite[e]
     exact absurd (C.mem.mpr (by rw[e];rfl)) hk
   rw[if_neg hk,this];rfl
noncomputable def dec(p:Prop):Bool:=@decide p (Classical.propDecidable p)
theorem fB{p:Prop}:dec p=true↔p:=by unfold dec;simp
theorem kQ{p:Prop}:dec p=false↔¬ p:=by unfold dec;simp
theorem kR{p:Prop}{b:Bool}(h:b=true↔p):b=dec p:=by rw[Bool.eq_iff_iff,fB];exact h
noncomputable def sb(a:Str)(l:Int)(t:TT):Bool:=dec (eY a l t)
theorem Ql{a:Str}{l:Int}{t:TT}:sb a l t=true↔eY a l t:=fB
theorem tE{a:Str}{l:Int}{t:TT}:sb a l t=false↔¬ eY a l t:=kQ
noncomputable def abB:TT→Bool
 | .num _=>false
 | .br f=>dec (c9 f)
theorem Af(fs:List Str)(x:Str):Mine.contains (.str x) (.tuple (fs.map .str))=.ok (fs.contains x):=by
 show((ofO (strs? (fs.map .str))).bind fun ss=>P.ok (ss.contains x))=_;rw[fV];rfl
theorem Qm{xs:List Str}{t:PyData→R Bool}{g:Str→Bool}(h:∀ x∈xs,t (.str x)=.ok (g x)):aD (aO (.ok (xs.map .str)) t (fun d=>.ok (.fz d))) .NotEq (.ok (.own (.list [])))=.ok (.fz (.bool (!(xs.filter g).isEmpty))):=by
 show rb (rb (aR t (fun d=>.ok (.fz d)) (xs.map .str)) fun r=>ofP (own (.list r))) _=_;rw[zZ h];show aV (ofP (cC (eqO (.list ((xs.filter g).map .str)) (.list []))))=_;rw[nY];rfl
theorem Qn{xs:List Str}{t:PyData→R Bool}{g:Str→Bool}(h:∀ x∈xs,t (.str x)=.ok (g x)):aD (aO (.ok (xs.map .str)) t (fun d=>.ok (.fz d))) .Eq (.ok (.own (.list [])))=.ok (.fz (.bool (xs.filter g).isEmpty)):=by
 show rb (rb (aR t (fun d=>.ok (.fz d)) (xs.map .str)) fun r=>ofP (own (.list r))) _=_;rw[zZ h];show aV (ofP (eqO (.list ((xs.filter g).map .str)) (.list [])))=_;rw[nY];rfl
theorem Ag{xs:List Str}{g:Str→Bool}:(xs.filter g).isEmpty=true↔∀ x∈xs,g x=false:=by
 rw[List.isEmpty_iff,List.filter_eq_nil_iff];simp
noncomputable def tF(g:Str→Option TT)(P:Str→Prop):Prop:=∀ k t,g k=some t→∀ x,(t.get x).isSome=true→P x
noncomputable def iT(g:Str→Option TT)(P:Str→Prop)(k:Str):Bool:=dec (∀ t,g k=some t→∀ x,(t.get x).isSome=true→P x)
theorem Ah{l:LP}{g:Str→Option TT}(B:Bld N m l g)(P:Str→Prop):(ks l).all (iT g P)=dec (tF g P):=kR (by
 rw[List.all_eq_true];exact⟨fun h k t hk=>fB.mp (h k (B.mem.mpr (by rw[hk];rfl))) t hk,fun h k _=>fB.mpr (h k)⟩)
theorem Ai{l lr:LP}{g r:Str→Option TT}{x:Str}{P:Str→Prop}{c:Str→Bool}{T:PyData→R Bool}(hT:∀ y,T (.str y)=.ok (c y))(hc:∀ y,c y=false↔P y)(Br:Bld N m lr r)(h1:lk l x=some (.dict (mkd lr)))(h2:g x=some (.br r))(A B:R V) :
  ifS (aD (aO (plI (aJ (c8 (.fz (.dict (mkd l)))) (.ok (.fz (.str x))))) T (fun d=>.ok (.fz d))) .NotEq (.ok (.own (.list [])))) A B=if iT g P x=true then B else A:=by
 show ifS (aD (aO (plI (ofP (getItem (.dict (mkd l)) (.str x)))) T _) _ _) _ _=_;rw[dS h1];show ifS (aD (aO (ofP (items (.dict (mkd lr)))) T _) _ _) _ _=_;rw[e9,aM,Qm (g:=c) fun y _=>hT y,show((ks lr).filter c).isEmpty=iT g P x from kR (Ag.trans ⟨fun h t ht y hy=>by
  rw[h2] at ht;obtain rfl:=si ht;exact(hc y).mp (h y (Br.mem.mpr hy)),fun h y hy=>(hc y).mpr (h _ h2 y (Br.mem.mp hy))⟩)]
 cases iT g P x<;>rfl
theorem Qo(a b:Str)(fs:List Str)(y:Str):tst (aD (.ok (.fz (.str y))) .NotIn (ofP (getItem (enc (.join a b fs)) (.int 3))))=.ok (!fs.contains y):=by
 show tst (aV (ofP (cC (Mine.contains (.str y) (.tuple (fs.map .str))))))=_;rw[Af];rfl
theorem Qp(a b:Str)(fs:List Str)(y:Str):tst (aD (.ok (.fz (.str y))) .In (ofP (getItem (enc (.join a b fs)) (.int 3))))=.ok (fs.contains y):=by
 show tst (aV (ofP (Mine.contains (.str y) (.tuple (fs.map .str)))))=_;rw[Af];rfl
theorem Qq(fs:List Str)(y:Str):(!fs.contains y)=false↔y∈fs:=by simp
theorem Qr(fs:List Str)(y:Str):fs.contains y=false↔y∉fs:=by simp
theorem n6{f:Str→Option TT}{a b:Str}{fs:List Str}(h:∀ g k,f a=some (.br g)→f b=some (.br k)→¬ FitJ fs g k):aL (.join a b fs) (.br f)=none:=by
 refine ocs (aL (.join a b fs) (.br f)) (fun e=>e) fun s e=>?_;obtain⟨g,k,h1,h2,F,_⟩:=Ps e;exact absurd F (h g k h1 h2)
theorem Wt{t:TT}(h:abB t=true):∃ g,t=.br g∧c9 g:=by
 cases t with
 |num=>exact bft h
 |br g=>exact⟨g,rfl,fB.mp h⟩
inductive BindE{α β:Type}(o:Option α)(k:α→Option β)(y:β):Prop where
 |mk (x:α) (h:o=some x) (g:k x=some y):BindE o k y
theorem bind_some{α β:Type}{o:Option α}{k:α→Option β}{y:β}(h:o.bind k=some y):BindE o k y:=by
 cases o with
 |none=>exact ns h
 |some x=>exact⟨x,rfl,h⟩
theorem Qs:∀ {r:WW} {t z:TT},r.isRows=true→r.wf→aL r t=some z→∃ f,z=.br f∧∀ k,(f k).isSome=true↔k∈r.names:=by
 intro r
 induction r with
 |bnil=>intro t z _ _ h;obtain rfl:=si h;exact⟨_,rfl,fun k=>by simp[rZ,r9]⟩
 |bcons n p v r ihv ihr =>
  intro t z _ hw h;obtain⟨x,h1,h⟩:=bind_some h;obtain⟨y,h2,h⟩:=bind_some h;obtain⟨z1,h3,h⟩:=bind_some h;obtain rfl:=si h;obtain⟨f,rfl,hf⟩:=ihr hw.2.1.2 hw.2.1.1 h3;refine⟨_,rfl,fun k=>?_⟩;simp only[upd,nR,rZ,r9,List.mem_cons]
  by_cases e:k=n
  ·simp[e]
  ·simp only[e,if_false,false_or];exact hf k
 |_=>intro t z h;exact bft h
theorem Gives.rb{r:R V}{P:PyData→Prop}(h:Gives r P):Gives (rb r R.ok) P:=by
 obtain⟨v,d,rfl,e,p⟩:=h;exact⟨v,d,rfl,e,p⟩
theorem Qt(n:Nat)(d:PyData)(h:rn n "is_view" [.fz d]=.ok (.fz (.bool true))):rn (n+1) "need_view" [.fz d]=.ok (.fz .none):=by
 rw[Ne,h];rfl
theorem tG{a b:Str}(h:a.cps.toList=b.cps.toList):a=b:=by
 cases a;cases b;simp only[Str.mk.injEq];exact Array.toList_inj.mp h
theorem n7(a:Str):¬ ltS a a:=List.lt_irrefl _
theorem Aj{a b c:Str}(h1:ltS a b)(h2:ltS b c):ltS a c:=List.lt_trans h1 h2
theorem Qu{a b:Str}(h:¬ ltS b a)(hn:a≠b):ltS a b:=by
 rcases Std.le_iff_lt_or_eq.mp (List.not_lt.mp h) with h | h
 ·exact h
 ·exact absurd (tG h) hn
theorem tH{x a:Str}:∀ {l:List Str},x∈dB a l↔x=a∨x∈l
 | []=>by simp[dB]
 |b::r=>by
  show x∈(if b.cps.toList < a.cps.toList then b::dB a r else a::b::r)↔_
  split
  ·rw[List.mem_cons,tH (l:=r),List.mem_cons];constructor
   ·rintro(h | h | h)<;>simp[h]
   ·rintro(h | h | h)<;>simp[h]
  ·simp
theorem eC{x:Str}:∀ {l:List Str},x∈bK l↔x∈l
 | []=>by simp[bK]
 |a::r=>by
  show x∈dB a (bK r)↔_;rw[tH,eC (l:=r),List.mem_cons]
theorem Qv{a:Str}:∀ {l:List Str},a∉l→l.Pairwise ltS→(dB a l).Pairwise ltS:=by
 intro v0
 induction v0 with
 |nil =>
  intro _ _;simp[dB]
 |cons b r ih =>
  intro hn h;obtain⟨h1,h2⟩:=List.pairwise_cons.mp h;show(if b.cps.toList < a.cps.toList then b::dB a r else a::b::r).Pairwise ltS
  split
  ·rename_i hl;refine List.pairwise_cons.mpr ⟨fun x hx=>?_,ih (fun hm=>hn (List.mem_cons_of_mem _ hm)) h2⟩;rcases tH.mp hx with rfl | hx
   ·exact hl
   ·exact h1 x hx
  ·rename_i hl;have hab:ltS a b:=Qu hl fun e=>hn (by simp[e]);refine List.pairwise_cons.mpr ⟨fun x hx=>?_,h⟩;rcases List.mem_cons.mp hx with rfl | hx
   ·exact hab
   ·exact Aj hab (h1 x hx)
theorem tI:∀ {l:List Str},l.Nodup→(bK l).Pairwise ltS:=by
 intro v0
 induction v0 with
 |nil =>
  intro _;exact .nil
 |cons a r ih =>
  intro h;obtain⟨h1,h2⟩:=List.nodup_cons.mp h;exact Qv (fun hm=>h1 (eC.mp hm)) (ih h2)
theorem Ak:∀ {a b:List Str},a.Pairwise ltS→b.Pairwise ltS→(∀ x,x∈a↔x∈b)→a=b
 | [],[],_,_,_=>rfl
 | [],y::s,_,_,h=>absurd ((h y).mpr (by simp)) (by simp)
 |x::r,[],_,_,h=>absurd ((h x).mp (by simp)) (by simp)
 |x::r,y::s,ha,hb,h=>by
  obtain⟨a1,a2⟩:=List.pairwise_cons.mp ha;obtain⟨b1,b2⟩:=List.pairwise_cons.mp hb;have e:x=y:=by
   rcases List.mem_cons.mp ((h x).mp (by simp)) with e | hx
   ·exact e
   ·rcases List.mem_cons.mp ((h y).mpr (by simp)) with e | hy
    ·exact e.symm
    ·exact absurd (Aj (a1 y hy) (b1 x hx)) (n7 x)
  subst e;rw[Ak a2 b2 fun z=>?_];have:=h z;rw[List.mem_cons,List.mem_cons] at this;constructor
  ·intro hz;rcases this.mp (.inr hz) with rfl | h'
   ·exact absurd (a1 z hz) (n7 z)
   ·exact h'
  ·intro hz;rcases this.mpr (.inr hz) with rfl | h'
   ·exact absurd (b1 z hz) (n7 z)
   ·exact h'
theorem Al{l:List Str}(h:l.Nodup):(bK l).Nodup:=(tI h).imp fun {a b} (h:ltS a b) (e:a=b)=>n7 b (e▸h)
theorem Qw{l:List Str}(h:l.Nodup):(bK l).length=l.length:=Nat.le_antisymm (sF (Al h) fun x hx=>eC.mp hx) (sF h fun x hx=>eC.mpr hx)
theorem Am{l:List Str}(h:l.length < 64):f7 (l.map .str)=.ok (.own (.list ((bK l).map .str))):=by
 show((ofO (strs? (l.map .str))).bind fun l=>if l.length < 64 then own (.list ((bK l).map .str)) else .no)=_;rw[fV,e6,eZ,if_pos h];rfl
theorem Wu{l:LP}(h:l.length < 64):fG (.dict (mkd l))=.ok (.own (.list ((bK (ks l)).map .str))):=by
 show f7 ((mkd l).map (·.1))=_;rw[sB,Am (by rw[fA];exact h)]
theorem Wv(a b:List Str):eqO (.list (a.map .str)) (.list (b.map .str))=.ok (a==b):=by
 show(if (a.map PyData.str).length=(b.map PyData.str).length then gV (a.map .str) (b.map .str) else P.ok false)=_;rw[List.length_map,List.length_map]
 by_cases h:a.length=b.length
 ·rw[if_pos h];show(match strs? (a.map .str) with | none=>P.no | some a=>match strs? (b.map .str) with | none=>.no | some b=>.ok (a==b))=_;rw[fV,fV]
 ·rw[if_neg h];congr;exact(beq_false_of_ne fun e=>h (by rw[e])).symm
theorem Ww{a b:List Str}(ha:a.Nodup)(hb:b.Nodup):(bK a==bK b)=dec (∀ x,x∈a↔x∈b):=by
 refine kR (beq_iff_eq.trans ⟨fun e x=>?_,fun h=>Ak (tI ha) (tI hb) fun x=>?_⟩)
 ·rw[← eC,e,eC]
 ·rw[eC,eC];exact h x
theorem Wx(b:R V):a9 (.ok (.fz (.bool false))) b=.ok (.fz (.bool false)):=rfl
theorem Wy(b:R V):a9 (.ok (.fz (.bool true))) b=b:=rfl
end Mine
namespace Mine
open PySem
variable {N:List Str} {m:Nat}
theorem Qx(a:PyData){v:V}{d:PyData}(hv:v.clear=.fz d):aN [.ok (.fz a),.ok v]=.ok (.fz (.tuple [a,d])):=by
 show(if [V.fz a,v.clear].length≤aI then R.ok (V.fz (.tuple (bJ [V.fz a,v.clear]))) else .no)=_;rw[hv];rfl
theorem fW(a:PyData){r:R V}{v:V}{d:PyData}(hr:r=.ok v)(hv:v.clear=.fz d):aN [.ok (.fz a),r]=.ok (.fz (.tuple [a,d])):=by simp only[hr,Qx a hv]
theorem iU(H:Wld N):∀ {m n:Nat} {d:PyData} {t:TT},Sem N m d t→m≤n→Gives (rn (n+1) "_law_copy" [.fz d]) fun d'=>Sem N m d' t:=by
 intro m
 induction m with
 |zero =>
  intro n d t h hn;obtain⟨i,rfl,rfl,hi⟩ | ⟨_,_,_,e,_⟩:=h.inv'
  ·exact⟨_,_,(nI n _).trans rfl,rfl,.num hi⟩
  ·cases e
 |succ m ih =>
  intro n d t h hn;refine exnE (c:=1) n hn hn fun n hn=>?_;obtain⟨i,rfl,rfl,hi⟩ | ⟨_,l,f,e,rfl,rfl,B⟩:=h.inv'
  ·exact⟨_,_,(nI _ _).trans rfl,rfl,.num hi⟩
  ·cases e;obtain⟨l',e,C⟩:=z7 (N:=N) (m:=m) (F:=f) (t:=fun _=>.ok true) (e:=fun d1=>aN [.ok (.fz d1),aG (rn (n+1) "_law_copy") [ofP (getItem (.dict (mkd l)) d1)]]) (xs:=ks l) (by rw[fA];exact B.lt H (by decide)) fun k hk=>by
    obtain⟨d,u,h1,h2,h3⟩:=B.key hk;obtain⟨v,d',e1,e2,e3⟩:=ih h3 (Nat.le_of_succ_le_succ hn);refine⟨B.sub k hk,.inr ⟨rfl,.fz (.tuple [.str k,d']),d',u,?_,rfl,h2,e3⟩⟩;rw[dS h1];exact fW _ e1 e2
   refine⟨.own (.dict (mkd l')),_,?_,rfl,(B.all (fun _ h=>h) C).toSem⟩;rw[nI,e9,aM,e];rfl
theorem Qy(n:Nat):rn (n+1) "_law_copy" [.fz .none]=.ok (.fz .none):=(nI n _).trans rfl
theorem list_dict(l:LP):fH (.dict (mkd l))=.ok (.own (.list ((ks l).map .str))):=by
 show own (.list ((mkd l).map (·.1)))=_;simp only[sB];rfl
theorem tJ(n:Nat){d:PyData}{t:TT}(h:Sem N m d t):rn (n+1) "_law_is_table" [.fz d]=.ok (.fz (.bool (abB t))):=by
 rw[zM];obtain⟨i,rfl,rfl,_⟩ | ⟨m,l,f,_,rfl,rfl,B⟩:=h.inv'
 ·rfl
 ·rw[e9,aM,Qn (g:=fun x=>match lk l x with | some d=>!dU d | none=>false) fun x hx=>by
   obtain⟨d,t,h1,h2,h3⟩:=B.key hx;rw[dS h1,h1];rfl]
  show R.ok (V.fz (.bool _))=_;refine congrArg (fun b=>R.ok (V.fz (.bool b))) (kR ?_);rw[Ag];constructor
  ·intro h k t hk;obtain⟨d,h1,h2⟩:=B.get hk;have:=h k (sE h1);rw[h1] at this;obtain⟨i,rfl,rfl,_⟩ | ⟨_,l',f',_,rfl,rfl,_⟩:=h2.inv'
   ·exact btf this
   ·exact⟨_,rfl⟩
  ·intro h x hx;obtain⟨d,t,h1,h2,h3⟩:=B.key hx;obtain⟨g,rfl⟩:=h x t h2;obtain⟨_,l',_,rfl,_⟩:=h3.br_inv';rw[h1];rfl
theorem Qz(n:Nat):rn (n+1) "_law_is_table" [.fz .none]=.ok (.fz (.bool false)):=(zM n _).trans rfl
theorem Q0(l:LP)(x:Str):dK (.dict (mkd l)) [.str x]=.ok (.fz ((lk l x).getD .none)):=by
 show fz ((bP (mkd l) x).getD .none)=_;rw[kL];rfl
theorem n8(l:LP)(x:Str):bH (so "get") (.ok (.fz (.dict (mkd l)))) [.ok (.fz (.str x))]=.ok (.fz ((lk l x).getD .none)):=by
 show ofP (dK (.dict (mkd l)) [.str x])=_;rw[Q0];rfl
theorem Q1(n:Nat){l:LP}{f:Str→Option TT}(B:Bld N m l f)(a:Str)(i:Int):rn (n+1) "_law_high" [.fz (.dict (mkd l)),.fz (.str a),.fz (.int i)]=.ok (.fz (.bool (sb a i (.br f)))):=by
 rw[Ob,n8,zX];refine ocs (lk l a) (fun e=>?_) fun d e=>?_
 ·try rewrite[e]
  have:sb a i (.br f)=false:=tE.mpr fun ⟨j,h,_⟩=>by
   have h:f a=some (.num j):=h;rw[B.none_iff.mpr e] at h;cases h
  rw[this];rfl
 ·try rewrite[e]
  obtain⟨t,h1,h2⟩:=B.get' e;obtain⟨j,rfl,rfl,_⟩ | ⟨_,l',f',_,rfl,rfl,_⟩:=h2.inv'
  ·show R.ok (V.fz (.bool (decide (i≤j))))=_;rw[show decide (i≤j)=sb a i (.br f) from kR (decide_eq_true_iff.trans ⟨fun h=>⟨j,h1,h⟩,fun ⟨k,h,h'⟩=>by
    have h:f a=some (.num k):=h;rw[h1] at h;cases h;exact h'⟩)]
  ·have:sb a i (.br f)=false:=tE.mpr fun ⟨j,h,_⟩=>by
    have h:f a=some (.num j):=h;rw[h1] at h;cases h
   rw[this];rfl
theorem Q2(xs:List PyData):eqO (.list xs) (.list [])=.ok xs.isEmpty:=by
 cases xs with
 |nil=>rfl
 |cons x r=>rfl
theorem Q3{t:PyData→R Bool}{g:PyData→Bool}:∀ {xs:List PyData},(∀ x∈xs,t x=.ok (g x))→aR t (fun d=>.ok (.fz d)) xs=.ok (xs.filter g):=by
 intro v0
 induction v0 with
 |nil =>
  intro _;exact rfl
 |cons x r ih =>
  intro h;show rb (nx (t x)) (fun b=>if b then rb (nx (.ok (.fz x))) fun v=>rb (aR t (fun d=>.ok (.fz d)) r) fun xs=>.ok (dOf v::xs) else aR t (fun d=>.ok (.fz d)) r)=_;rw[h x (by simp),eO,aF,ih fun d hd=>h d (List.mem_cons_of_mem _ hd)];cases hg:g x
  ·rw[dQ,List.filter_cons_of_neg (by simp[hg])]
  ·rw[cJ,List.filter_cons_of_pos hg];rfl
theorem An{xs:List PyData}{t:PyData→R Bool}{g:PyData→Bool}(h:∀ x∈xs,t x=.ok (g x)):aD (aO (.ok xs) t (fun d=>.ok (.fz d))) .NotEq (.ok (.own (.list [])))=.ok (.fz (.bool (!(xs.filter g).isEmpty))):=by
 show rb (rb (aR t (fun d=>.ok (.fz d)) xs) fun r=>ofP (own (.list r))) _=_;rw[Q3 h];show aV (ofP (cC (eqO (.list (xs.filter g)) (.list []))))=_;rw[Q2];rfl
noncomputable def sec:PyData→PyData
 | .tuple [_,d]=>d
 |d=>d
theorem Ao(n:Nat)(ps:LP):rn (n+1) "_law_several" [.fz (.list (ps.map aZ))]=if ((ps.map aZ).filter fun d=>dT (sec d)).isEmpty=true then rb (ofP (b8 (.list (ps.map aZ)))) R.ok else .ok (.fz .none):=by
 rw[Om];show ifS (aD (aO (.ok (ps.map aZ)) (fun d1=>tst (aD (ofP (getItem d1 (.int 1))) .Is (.ok (.fz .none)))) (fun d1=>.ok (.fz d1))) .NotEq (.ok (.own (.list [])))) _ _=_;rw[An (g:=fun d=>dT (sec d)) fun d hd=>by
  obtain⟨p,_,rfl⟩:=List.mem_map.mp hd;rfl]
 cases ((ps.map aZ).filter fun d=>dT (sec d)).isEmpty<;>rfl
theorem Ap(n:Nat){ps:LP}{p:Str×PyData}(hp:p∈ps)(h:p.2=.none):rn (n+1) "_law_several" [.fz (.list (ps.map aZ))]=.ok (.fz .none):=by
 rw[Ao,if_neg];intro he;rw[List.isEmpty_iff,List.filter_eq_nil_iff] at he;exact he (aZ p) (List.mem_map_of_mem hp) (by show dT p.2=true;rw[h];rfl)
theorem Aq(n:Nat){ps:LP}(h:∀ p∈ps,dT p.2=false)(hl:ps.length < 4096):rn (n+1) "_law_several" [.fz (.list (ps.map aZ))]=.ok (.own (.dict (mkd (sts ps [])))):=by
 rw[Ao,if_pos,nX hl]
 ·rfl
 ·rw[List.isEmpty_iff,List.filter_eq_nil_iff];intro d hd;obtain⟨p,hp,rfl⟩:=List.mem_map.mp hd;show ¬ dT p.2=true;rw[h p hp];exact Bool.false_ne_true
theorem Sem.notNone{d:PyData}{t:TT}(h:Sem N m d t):dT d=false:=by
 obtain⟨i,rfl,rfl,_⟩ | ⟨m,l,f,_,rfl,rfl,B⟩:=h.inv'<;>rfl
end Mine
namespace Mine
open PySem
variable {N:List Str} {m:Nat}
noncomputable def bR(N:List Str)(m:Nat)(o:Option TT)(r:R V):Prop:=match o with
 |some s=>Gives r fun d=>Sem N m d s
 |none=>r=.ok (.fz .none)
theorem bR.rb{o:Option TT}{r:R V}(h:bR N m o r):bR N m o (rb r R.ok):=by
 cases o with
 |none=>have h:r=.ok (.fz .none):=h;rw[h];rfl
 |some t=>exact Gives.rb (P:=fun d=>Sem N m d t) h
theorem Ar(l:LP):eG (.dict (mkd l))=.ok (.own (.list (l.map aZ))):=by
 show own (.list ((mkd l).map fun p=>.tuple [p.1,p.2]))=_;simp only[mkd,List.map_map];rfl
theorem As:∀ (a b c:LP),sts (a++b) c=sts b (sts a c):=by
 intro v0
 induction v0 with
 |nil =>
  intro _ _;exact rfl
 |cons p r ih =>
  intro b c;exact ih b (st c p.1 p.2)
noncomputable def js(vw tr one other:PyData)(j:Option V)(fo:Option V):aA:=b7 (ζ vw) (ζ tr) (ζ one) (ζ other) j fo
theorem Q4(H:Wld N)(n:Nat){a b:Str}{fs:List Str}{l:LP}{f:Str→Option TT}(B:Bld N m l f)(hn:m≤n):bR N (m+1) (aL (.join a b fs) (.br f)) (rn (n+2) "_law_joins" [.fz (enc (.join a b fs)),.fz (.dict (mkd l))]):=by
 simp only[Oc];show bR N (m+1) _ (rb (bH (so "get") (.ok (.fz (.dict (mkd l)))) [.ok (.fz (.str a))]) fun v1=>rb (bH (so "get") (.ok (.fz (.dict (mkd l)))) [.ok (.fz (.str b))]) fun v2=>_);simp only[n8,n8,aF,aF];have ht:∀ x,(∃ g,f x=some (.br g)∧c9 g∧∃ l' m',m=m'+1∧lk l x=some (.dict (mkd l'))∧Bld N m' l' g∧rn (n+1) "_law_is_table" [.fz ((lk l x).getD .none)]=.ok (.fz (.bool true)))∨((∀ g,f x=some (.br g)→¬ c9 g)∧rn (n+1) "_law_is_table" [.fz ((lk l x).getD .none)]=.ok (.fz (.bool false))):=fun x=>by
  refine ocs (lk l x) (fun e=>?_) fun d e=>?_
  ·try rewrite[e]
   exact .inr ⟨fun g hg=>(by simp only[B.none_iff.mpr e] at hg;cases hg),Qz n⟩
  ·try rewrite[e]
   obtain⟨t,h1,h2⟩:=B.get' e;show(∃ g,_∧_∧∃ l' m',m=m'+1∧some d=some (.dict (mkd l'))∧_∧rn (n+1) "_law_is_table" [.fz d]=_)∨(_∧rn (n+1) "_law_is_table" [.fz d]=_);simp only[tJ n h2];obtain⟨i,_⟩ | ⟨m',l',g,B'⟩:=h2.inv
   ·exact .inr ⟨fun g hg=>(by simp only[h1] at hg;cases hg),rfl⟩
   ·by_cases hg:c9 g
    ·exact .inl ⟨g,h1,hg,l',m',rfl,rfl,B',by simp only[show abB (.br g)=true from fB.mpr hg]⟩
    ·exact .inr ⟨fun g' hg'=>(by simp only[h1] at hg';cases hg';exact hg),by simp only[show abB (.br g)=false from kQ.mpr hg]⟩
 simp only[cB,cB,cB,dR,dR];show bR N (m+1) _ (ifS (orS (unS .Not (rn (n+1) "_law_is_table" [.fz ((lk l a).getD .none)])) (unS .Not (rn (n+1) "_law_is_table" [.fz ((lk l b).getD .none)]))) _ _);obtain⟨g,fa,ga,l1,m',rfl,e1,B1,q1⟩ | ⟨ha,q1⟩:=ht a
 case inr=>simp only[q1,n6 fun g h h1 h2 F=>ha g h1 F.ga];rfl
 obtain⟨h,fb,hb,l2,_,e,e2,B2,q2⟩ | ⟨hb,q2⟩:=ht b
 case inr=>simp only[q1,q2,n6 fun g h h1 h2 F=>hb h h2 F.ha];rfl
 cases e;rw[q1,q2,e1,e2];show bR N (m'+1+1) _ (rb (ofP (items (.dict (mkd l1)))) fun l3=>aT (nJ (n+1)) nK l3 (js (enc (.join a b fs)) (.dict (mkd l)) (.dict (mkd l1)) (.dict (mkd l2)) none none) (fun σ=>rH (n+1) σ (fun _=>R.ok (.fz .none)) R.ok) R.ok);simp only[e9,aM,aF];obtain⟨j,L1⟩:=z9 (S:=fun (j:Option V)=>js (enc (.join a b fs)) (.dict (mkd l)) (.dict (mkd l1)) (.dict (mkd l2)) j none) (b:=nJ (n+1)) (t:=nK) (c:=iT g (·∈fs)) (v:=.fz .none) (xs:=ks l1) (fun x hx j=>⟨some (.fz (.str x)),fun kn kr=>by
  obtain⟨d,t,h1,h2,h3⟩:=B1.key hx;obtain⟨r1,rfl⟩:=ga x t h2;obtain⟨_,lr,_,rfl,Br⟩:=h3.br_inv';unfold js;simp only[Od,aM,aF,Oe];exact Ai (Qo a b fs) (Qq fs) Br h1 h2 _ _⟩) none
 simp only[L1,Ah B1]
 by_cases c1:tF g (·∈fs)
 case neg=>rw[kQ.mpr c1,n6 fun g' h' h1 h2 F=>by rw[fa] at h1;cases h1;exact c1 F.gf];rfl
 simp only[fB.mpr c1,cJ];unfold js;simp only[Of];show bR N (m'+1+1) _ (rb (ofP (items (.dict (mkd l2)))) fun l3=>aT (nL (n+1)) nN l3 (js (enc (.join a b fs)) (.dict (mkd l)) (.dict (mkd l1)) (.dict (mkd l2)) j none) (fun σ=>rI (n+1) σ (fun _=>R.ok (.fz .none)) R.ok) R.ok);simp only[e9,aM,aF];obtain⟨j2,L2⟩:=z9 (S:=fun (j:Option V)=>js (enc (.join a b fs)) (.dict (mkd l)) (.dict (mkd l1)) (.dict (mkd l2)) j none) (b:=nL (n+1)) (t:=nN) (c:=iT h (·∉fs)) (v:=.fz .none) (xs:=ks l2) (fun x hx j=>⟨some (.fz (.str x)),fun kn kr=>by
  obtain⟨d,t,h1,h2,h3⟩:=B2.key hx;obtain⟨r1,rfl⟩:=hb x t h2;obtain⟨_,lr,_,rfl,Br⟩:=h3.br_inv';unfold js;simp only[Og,aM,aF,Oh];exact Ai (Qp a b fs) (Qr fs) Br h1 h2 _ _⟩) j
 simp only[L2,Ah B2]
 by_cases c2:tF h (·∉fs)
 case neg=>rw[kQ.mpr c2,n6 fun g' h' h1 h2 F=>by rw[fb] at h2;cases h2;exact c2 F.hf];rfl
 rw[fB.mpr c2,cJ];unfold js;simp only[Oi];show bR N (m'+1+1) _ (rb (ofP (items (.dict (mkd l1)))) fun l3=>aT (kC (n+1)) kD l3 (js (enc (.join a b fs)) (.dict (mkd l)) (.dict (mkd l1)) (.dict (mkd l2)) j2 (some (.own (.dict [])))) (fun σ=>rJ (n+1) σ (fun _=>R.ok (.fz .none)) R.ok) R.ok);simp only[e9,aM,aF];have hyes:aL (.join a b fs) (.br f)=some (.br (iN g h)):=(Pr (t:=.br f) fa fb).trans (iL ⟨ga,hb,c1,c2⟩ _);simp only[hyes];have L:=P3 H (m:=m') (S:=fun (c:LP) (j:Option V)=>js (enc (.join a b fs)) (.dict (mkd l)) (.dict (mkd l1)) (.dict (mkd l2)) j (some (.own (.dict (mkd c))))) (b:=kC (n+1)) (t:=kD) (xs:=ks l1) (j:=j2) (iN g h) (E:=fun _=>False) fun k hk c j ha=>by
  obtain⟨d,t,h1,h2,h3⟩:=B1.key hk;obtain⟨r1,rfl⟩:=ga k t h2;obtain⟨m',lr,Br⟩:=h3.br_inv;refine⟨B1.sub k hk,?_⟩;have hb':∀ kn kr,(rb (ofP (aS kD (.str k) (js (enc (.join a b fs)) (.dict (mkd l)) (.dict (mkd l1)) (.dict (mkd l2)) j (some (.own (.dict (mkd c))))))) fun σ=>kC (n+1) σ kn kr)=ifS (.ok (.fz (.bool (lk l2 k).isSome))) (cN (aK b8 (aB .Add (.ok (.own (.list (lr.map aZ)))) (aK eG (ofP (getItem (.dict (mkd l2)) (.str k)))))) (.ok (.dict (mkd c))) (.ok (.fz (.str k))) fun o3=>kn (js (enc (.join a b fs)) (.dict (mkd l)) (.dict (mkd l1)) (.dict (mkd l2)) (ζ (.str k)) (some (.own o3)))) (kn (js (enc (.join a b fs)) (.dict (mkd l)) (.dict (mkd l1)) (.dict (mkd l2)) (ζ (.str k)) (some (.own (.dict (mkd c)))))):=fun kn kr=>by
   unfold js;simp only[Oj,aM,aF,Ok];show ifS (aV (ofP (Mine.contains (.str k) (.dict (mkd l2))))) (cN (aK b8 (aB .Add (aK eG (ofP (getItem (.dict (mkd l1)) (.str k)))) (aK eG (ofP (getItem (.dict (mkd l2)) (.str k)))))) _ _ _) _=_;simp only[kN,dS h1,show aK eG (ofP (.ok (.fz (.dict (mkd lr)))))=.ok (.own (.list (lr.map aZ))) from congrArg ofP (Ar lr)];rfl
  refine ocs (lk l2 k) (fun hk2=>?_) fun d2 hk2=>?_
  ·try rewrite[hk2]
   refine .inl ⟨?_,some (.fz (.str k)),fun kn kr=>(hb' kn kr).trans (by simp only[hk2];rfl)⟩;show(g k).bind (fun r=>(h k).bind _)=none;simp only[h2,B2.none_iff.mpr hk2];rfl
  ·try rewrite[hk2]
   obtain⟨t2,q1,q2⟩:=B2.get' hk2;obtain⟨r2,rfl⟩:=hb k t2 q1;obtain⟨_,lr2,e,rfl,Br2⟩:=q2.br_inv';cases e;have hl1:=Br.len;have hl2:=Br2.len;have hN:=H.len;refine .inr (.inl ⟨.dict (mkd (sts (lr++lr2) [])),zP (.br r1) (.br r2),some (.fz (.str k)),?_,?_,fun kn kr=>(hb' kn kr).trans ?_⟩)
   ·show(g k).bind (fun r=>(h k).bind _)=_;simp only[h2,q1];rfl
   ·simp only[As];exact(((Bld.nil.upd Br).upd Br2).ext fun x=>by simp[nR]).toSem
   ·simp only[hk2,dS hk2,show aK eG (ofP (.ok (.fz (.dict (mkd lr2)))))=.ok (.own (.list (lr2.map aZ))) from congrArg ofP (Ar lr2)];show rb (rb (ofP (jD .Add (lr.map aZ) (.list (lr2.map aZ)))) fun v=>ofP (b8 (dOf v))) _=_;rw[show jD .Add (lr.map aZ) (.list (lr2.map aZ))=.ok (.own (.list ((lr++lr2).map aZ))) from by
     show(if gU .Add=true∧(lr.map aZ).length+(lr2.map aZ).length≤aI then P.ok (V.own (.list (lr.map aZ++lr2.map aZ))) else .no)=_;rw[if_pos ⟨rfl,by have:aI=16777216:=rfl;simp only[List.length_map];exact Dx hl1 hl2 hN this⟩,List.map_append]]
    show rb (ofP (b8 (.list ((lr++lr2).map aZ)))) _=_;rw[nX (by rw[List.length_append];exact Dw hl1 hl2 hN)];show rb (ofP (Mine.setItem (.dict (mkd c)) (.str k) _)) _=_;simp only[kO k _ ha];rfl
 obtain⟨c,j,hi,e⟩ | ⟨_,hx,_⟩:=L
 ·have hs:Sem N (m'+1) (.dict (mkd c)) (.br (iN g h)):=(B1.all (fun k h=>by show(g k).bind _=none;simp only[h];rfl) hi).toSem;simp only[show js (enc (.join a b fs)) (.dict (mkd l)) (.dict (mkd l1)) (.dict (mkd l2)) j2 (some (.own (.dict [])))=js (enc (.join a b fs)) (.dict (mkd l)) (.dict (mkd l1)) (.dict (mkd l2)) j2 (some (.own (.dict (mkd [])))) from rfl,e];unfold js;simp only[Ol];obtain⟨v,d,g1,g2,g3⟩:=(iU H hs (n:=n) hn).rb;exact⟨v,d,g1,g2,g3.mono (Nat.le_succ _)⟩
 ·exact hx.elim
end Mine
namespace Mine
open PySem
variable {N:List Str} {m:Nat}
section
theorem Q5(n:Nat)(d:PyData):rn (n+1) "_law_seen" [.fz (enc .whole),.fz d]=rb (rn n "_law_copy" [.fz d]) R.ok:=by kernel_rfl
theorem Q6(n:Nat)(a b:WW)(d:PyData):rn (n+1) "_law_seen" [.fz (enc (.andThen a b)),.fz d]=rb (rn n "_law_seen" [.fz (enc a),.fz d]) fun v=>rb (d6 (aD (ofP (rdv v.clear)) .Is (.ok (.fz .none))) (.ok (.fz .none)) (aG (rn n "_law_seen") [.ok (.fz (enc b)),bQ v.clear])) R.ok:=by kernel_rfl
theorem Q7(n:Nat)(x:Str)(i:Int):rn (n+1) "_law_seen" [.fz (enc (.pick x)),.fz (.int i)]=.ok (.fz .none):=by kernel_rfl
theorem Q8(n:Nat)(x y:Str)(i:Int):rn (n+1) "_law_seen" [.fz (enc (.call x y)),.fz (.int i)]=.ok (.fz .none):=by kernel_rfl
theorem Q9(n:Nat)(x:Str)(y i:Int):rn (n+1) "_law_seen" [.fz (enc (.sift x y)),.fz (.int i)]=.ok (.fz .none):=by kernel_rfl
theorem Ra(n:Nat)(x y:Str)(fs:List Str)(i:Int):rn (n+1) "_law_seen" [.fz (enc (.join x y fs)),.fz (.int i)]=.ok (.fz .none):=by kernel_rfl
theorem Rb(n:Nat)(v:WW)(i:Int):rn (n+1) "_law_seen" [.fz (enc (.each v)),.fz (.int i)]=.ok (.fz .none):=by kernel_rfl
theorem Rc(n:Nat)(v:WW)(i:Int):rn (n+1) "_law_seen" [.fz (enc (.beside v)),.fz (.int i)]=.ok (.fz .none):=by kernel_rfl
theorem Rd(n:Nat)(x:Str)(l:List (PyData×PyData)):rn (n+1) "_law_seen" [.fz (enc (.pick x)),.fz (.dict l)]=rb (aG (rn n "_law_copy") [bH (so "get") (.ok (.fz (.dict l))) [.ok (.fz (.str x))]]) R.ok:=by kernel_rfl
theorem Re(n:Nat)(x y:Str)(l:List (PyData×PyData)):rn (n+1) "_law_seen" [.fz (enc (.call x y)),.fz (.dict l)]=ifS (orS (aV (ofP (cC (Mine.contains (.str x) (.dict l))))) (aV (ofP (Mine.contains (.str y) (.dict l))))) (.ok (.fz .none)) (rb (aO (ofP (items (.dict l))) (fun d3=>tst (aV (ofP (cmp .NotEq d3 (.str x))))) (fun d3=>aN [.ok (.fz d3),aG (rn n "_law_copy") [ofP (getItem (.dict l) d3)]])) fun v4=>rb (aK b8 (aB .Add (ofP (rdv v4.clear)) (cS [aN [.ok (.fz (.str y)),aG (rn n "_law_copy") [ofP (getItem (.dict l) (.str x))]]]))) R.ok):=by kernel_rfl
theorem Rg(n:Nat)(r:WW)(l:List (PyData×PyData)):rn (n+1) "_law_seen" [.fz (enc (.beside r)),.fz (.dict l)]=ifS (aD (aO (ofP (items (enc r))) (fun d5=>tst (aD (ofP (getItem d5 (.int 1))) .NotIn (.ok (.fz (.dict l))))) (fun d5=>.ok (.fz d5))) .NotEq (.ok (.own (.list [])))) (.ok (.fz .none)) (rb (aG (rn n "_law_several") [aO (ofP (items (enc r))) (fun d7=>.ok true) (fun d7=>aN [ofP (getItem d7 (.int 0)),aG (rn n "_law_seen") [ofP (getItem d7 (.int 2)),aJ (.ok (.dict l)) (ofP (getItem d7 (.int 1)))]])]) R.ok):=by kernel_rfl
theorem Rh(n:Nat)(v:WW)(l:List (PyData×PyData)):rn (n+1) "_law_seen" [.fz (enc (.each v)),.fz (.dict l)]=rb (aG (rn n "_law_several") [aO (ofP (items (.dict l))) (fun d9=>.ok true) (fun d9=>aN [.ok (.fz d9),aG (rn n "_law_seen") [.ok (.fz (enc v)),ofP (getItem (.dict l) d9)]])]) R.ok:=by kernel_rfl
theorem Ri(n:Nat)(x y:Str)(fs:List Str)(l:List (PyData×PyData)):rn (n+1) "_law_seen" [.fz (enc (.join x y fs)),.fz (.dict l)]=rb (rn n "_law_joins" [.fz (enc (.join x y fs)),.fz (.dict l)]) R.ok:=by kernel_rfl
theorem Rj(n:Nat)(x:Str)(i:Int)(l:List (PyData×PyData)):rn (n+1) "_law_seen" [.fz (enc (.sift x i)),.fz (.dict l)]=ifS (unS .Not (rn n "_law_is_table" [.fz (.dict l)])) (.ok (.fz .none)) (rb (aK b8 (aO (ofP (items (.dict l))) (fun d10=>tst (aG (rn n "_law_high") [ofP (getItem (.dict l) d10),.ok (.fz (.str x)),.ok (.fz (.int i))])) (fun d10=>aN [.ok (.fz d10),aG (rn n "_law_copy") [ofP (getItem (.dict l) d10)]]))) R.ok):=by kernel_rfl
end
theorem Rk:∀ {r:WW} {f:Str→Option TT} {z:TT},r.isRows=true→r.wf→aL r (.br f)=some z→∀ p∈r.parts,(f p).isSome=true:=by
 intro r
 induction r with
 |bnil=>intro f z _ _ _ p hp;exact bT hp
 |bcons n p v r ihv ihr =>
  intro f z _ hw h q hq;obtain⟨x,h1,h⟩:=bind_some h;obtain⟨y,h2,h⟩:=bind_some h;obtain⟨z1,h3,h⟩:=bind_some h;rcases List.mem_cons.mp (show q∈p::r.parts from hq) with rfl | hq
  ·have h1:f q=some x:=h1;rw[h1];rfl
  ·exact ihr hw.2.1.2 hw.2.1.1 h3 q hq
 |_=>intro f z h;exact bft h
noncomputable def tK:PyData→Str
 | .tuple [_,.str p,_]=>p
 |_=>⟨#[]⟩
theorem Rl{l:LP}:∀ {r:WW},r.isRows=true→okW N r→(∀ d∈a8 r,tst (aD (ofP (getItem d (.int 1))) .NotIn (.ok (.fz (.dict (mkd l)))))=.ok (!(lk l (tK d)).isSome))∧(((a8 r).filter fun d=>!(lk l (tK d)).isSome).isEmpty=true↔∀ p∈r.parts,(lk l p).isSome=true):=by
 intro r
 induction r with
 |bnil=>intro _ _;exact⟨fun d hd=>(by exact bT hd),⟨fun _ _ h=>bT h,fun _=>rfl⟩⟩
 |bcons n p v r ihv ihr =>
  intro _ ho;obtain⟨i1,i2⟩:=ihr ho.2.2.1.2 ho.2.2.1.1;refine⟨fun d hd=>?_,?_⟩
  ·rcases List.mem_cons.mp (show d∈.tuple [.str n,.str p,enc v]::a8 r from hd) with rfl | hd
   ·show tst (aV (ofP (cC (Mine.contains (.str p) (.dict (mkd l))))))=_;rw[kN];rfl
   ·exact i1 d hd
  ·rw[List.isEmpty_iff] at i2 ⊢;show List.filter _ (.tuple [.str n,.str p,enc v]::a8 r)=[]↔∀ q∈p::r.parts,_;rw[List.forall_mem_cons,← i2,List.filter_cons];show(if (!(lk l p).isSome)=true then _ else _)=[]↔_;cases (lk l p).isSome<;>simp
 |_=>intro h;exact bft h
noncomputable def tL(n:Nat)(l:LP):PyData→R V:=fun d7=>aN [ofP (getItem d7 (.int 0)),aG (rn n "_law_seen") [ofP (getItem d7 (.int 2)),aJ (.ok (.dict (mkd l))) (ofP (getItem d7 (.int 1)))]]
inductive SeenW(N:List Str)(m:Nat)(r:R (List PyData))(nm:List Str)(o:Option TT):Prop where
 |mk (ps:LP) (e1:r=.ok (ps.map aZ)) (e2:ks ps=nm) (e3:(∃ z,o=some z∧∀ p∈ps,p.1∈N∧∃ u,z.get p.1=some u∧Sem N m p.2 u)∨o=none∧∃ p∈ps,p.2=.none):SeenW N m r nm o
noncomputable def Rm(N:List Str)(w:WW):Prop:=∀ {m n d t},w.hgt+m+3≤n→Sem N m d t→bR N m (aL w t) (rn n "_law_seen" [.fz (enc w),.fz d])
noncomputable def Rn(N:List Str)(w:WW):Prop:=∀ {m n l f},w.hgt+m+3≤n→Bld N m l f→(∀ p∈w.parts,(f p).isSome=true)→SeenW N m (aR (fun _=>.ok true) (tL n l) (a8 w)) w.names (aL w (.br f))
structure SeenS(N:List Str)(w:WW):Prop where
 a:w.isRows=false→Rm N w
 b:w.isRows=true→Rn N w
theorem At(H:Wld N):∀ {w:WW},okW N w→SeenS N w:=by
 intro w
 induction w with
 |whole =>
  refine fun _=>⟨fun _ m n d t hn hd=>?_,fun h=>by exact bft h⟩
  refine exnE (c:=2) n hn hn fun n hn=>?_;rw[Q5];exact(iU H hd (by exact Dy hn)).rb
 |pick x =>
  refine fun _=>⟨fun _ m n d t hn hd=>?_,fun h=>by exact bft h⟩
  refine exnE (c:=2) n hn hn fun n hn=>?_
  revert hn;refine hd.by (fun m i _ hn=>?_) fun m l f B hn=>?_
  ·exact Q7 _ _ _
  ·rw[Rd,n8];refine bR.rb ?_;show bR N (m+1) (f x) (rn (n+1) "_law_copy" [.fz ((lk l x).getD .none)]);refine ocs (f x) (fun e=>?_) fun u e=>?_
   ·try rewrite[e]
    rw[B.none_iff.mp e];exact Qy n
   ·try rewrite[e]
    obtain⟨d,h1,h2⟩:=B.get e;rw[h1];obtain⟨v,d',g1,g2,g3⟩:=iU H h2 (n:=n) (by exact kY hn);exact⟨v,d',g1,g2,g3.mono (Nat.le_succ _)⟩
 |call x y =>
  refine fun ho=>⟨fun _ m n d t hn hd=>?_,fun h=>by exact bft h⟩
  refine exnE (c:=2) n hn hn fun n hn=>?_
  revert hn;refine hd.by (fun m i _ hn=>?_) fun m l f B hn=>?_
  ·rw[show aL (.call x y) (.num i:TT)=none from iM (fun h=>by cases h.1) _];exact Q8 _ _ _ _
  ·rw[Re,kN,kN,B.dom,B.dom];show bR N (m+1) (grd ((f x).isSome=true∧f y=none) (some (.br (nS x y f)))) _
   by_cases hc:(f x).isSome=true∧f y=none
   case neg =>
    rw[iM hc];cases e1:f x with
    |none=>rfl
    |some u =>
     refine ocs (f y) (fun e2=>?_) fun v e2=>?_
     ·try rewrite[e2]
      exact absurd ⟨by rw[e1];rfl,e2⟩ hc
     ·try rewrite[e2]
      rfl
   rw[iL hc,hc.1,hc.2];obtain⟨u,hu⟩:=n0 hc.1;obtain⟨dx,q1,q2⟩:=B.get hu;obtain⟨v,dx',g1,g2,g3⟩:=iU H q2 (n:=n) (by exact kY hn);obtain⟨ps,e1,e2,e3,e4⟩:=z6 (N:=N) (m:=m) (F:=fun k=>if k=x then none else f k) (t:=fun d3=>tst (aV (ofP (cmp .NotEq d3 (.str x))))) (e:=fun d3=>aN [.ok (.fz d3),aG (rn (n+1) "_law_copy") [ofP (getItem (.dict (mkd l)) d3)]]) (xs:=ks l) fun k hk=>by
    obtain⟨d,u,h1,h2,h3⟩:=B.key hk;refine⟨B.sub k hk,?_⟩;show(R.ok (!(k==x))=_∧_)∨R.ok (!(k==x))=_∧_
    by_cases e:k=x
    ·exact .inl ⟨by simp[e],by simp[e]⟩
    ·obtain⟨v,d',e1,e2,e3⟩:=iU H h3 (n:=n) (by exact kY hn);refine .inr ⟨by simp[e],.fz (.tuple [.str k,d']),d',u,?_,rfl,by simp only[if_neg e];exact h2,e3⟩;rw[dS h1];exact fW _ e1 e2
   have hl:=B.lt H (k:=1000) (by decide);rw[fA] at e2;refine⟨.own (.dict (mkd (sts (ps++[(y,dx')]) []))),_,?_,rfl,?_⟩
   ·rw[e9,dS q1];show rb (rb (aR _ _ ((ks l).map .str)) fun r=>ofP (own (.list r))) (fun v4=>rb (aK b8 (aB .Add (ofP (rdv v4.clear)) (cS [aN [.ok (.fz (.str y)),rn (n+1) "_law_copy" [.fz dx]]]))) R.ok)=_;rw[e1,fW _ g1 g2];show rb (rb (ofP (jD .Add (ps.map aZ) (.list [.tuple [.str y,dx']]))) fun v=>ofP (b8 (dOf v))) R.ok=_;rw[show jD .Add (ps.map aZ) (.list [.tuple [.str y,dx']])=.ok (.own (.list ((ps++[(y,dx')]).map aZ))) from by
     show(if gU .Add=true∧(ps.map aZ).length+1≤aI then P.ok (V.own (.list (ps.map aZ++[.tuple [.str y,dx']]))) else .no)=_;rw[if_pos ⟨rfl,by have:aI=16777216:=rfl;simp only[List.length_map];exact Dz e2 hl this⟩,List.map_append];rfl]
    show rb (ofP (b8 (.list ((ps++[(y,dx')]).map aZ)))) R.ok=_;rw[nX (by rw[List.length_append];simp only[List.length_singleton];exact D0 e2 hl)];rfl
   ·rw[As];refine(((iR (F:=fun k=>if k=x then none else f k) Bld.nil e4).set ho.2.1 g3).ext fun k=>?_).toSem;simp only[upd,nS]
    by_cases ky:k=y
    ·rw[if_pos ky,if_pos ky,hu]
    ·rw[if_neg ky,if_neg ky]
     by_cases kx:k=x
     ·rw[if_pos kx];simp[kx]
     ·rw[if_neg kx]
      by_cases hk:k∈ks ps
      ·rw[if_pos hk]
      ·rw[if_neg hk];refine ocs (f k) (fun ef=>?_) fun u ef=>?_
       ·try rewrite[ef]
        rfl
       ·try rewrite[ef]
        exact absurd ((e3 k).mpr ⟨B.mem.mpr (by rw[ef];rfl),by simp[kx,ef]⟩) hk
 |sift x i =>
  refine fun _=>⟨fun _ m n d t hn hd=>?_,fun h=>by exact bft h⟩
  refine exnE (c:=2) n hn hn fun n hn=>?_
  revert hn;refine hd.by (fun m i _ hn=>?_) fun m l f B hn=>?_
  ·exact Q9 _ _ _ _
  ·rw[Rj,tJ n B.toSem];show bR N (m+1) (grd (c9 f) (some (.br (nT x i f)))) _
   by_cases hc:c9 f
   case neg=>rw[iM hc,show abB (.br f)=false from kQ.mpr hc];rfl
   rw[iL hc,show abB (.br f)=true from fB.mpr hc];obtain⟨l',e,C⟩:=z7 (N:=N) (m:=m) (F:=nT x i f) (t:=fun d10=>tst (aG (rn (n+1) "_law_high") [ofP (getItem (.dict (mkd l)) d10),.ok (.fz (.str x)),.ok (.fz (.int i))])) (e:=fun d10=>aN [.ok (.fz d10),aG (rn (n+1) "_law_copy") [ofP (getItem (.dict (mkd l)) d10)]]) (xs:=ks l) (by rw[fA];exact B.lt H (by decide)) fun k hk=>by
    obtain⟨d,u,h1,h2,h3⟩:=B.key hk;obtain⟨g,rfl⟩:=hc k u h2;obtain⟨_,lr,_,rfl,Br⟩:=h3.br_inv';refine⟨B.sub k hk,?_⟩;rw[dS h1,show nT x i f k=grd (eY x i (.br g)) (some (.br g)) from by show(f k).bind _=_;rw[h2];rfl];show(tst (rn (n+1) "_law_high" [.fz (.dict (mkd lr)),.fz (.str x),.fz (.int i)])=_∧_)∨tst (rn (n+1) "_law_high" [.fz (.dict (mkd lr)),.fz (.str x),.fz (.int i)])=_∧_;rw[Q1 n Br x i];refine bcs (sb x i (.br g)) (fun hs=>?_) fun hs=>?_
    ·try rewrite[hs]
     exact .inl ⟨rfl,iM (tE.mp hs) _⟩
    ·try rewrite[hs]
     obtain⟨v,d',e1,e2,e3⟩:=iU H h3 (n:=n) (by exact kY hn);exact .inr ⟨rfl,.fz (.tuple [.str k,d']),d',.br g,fW _ e1 e2,rfl,iL (Ql.mp hs) _,e3⟩
   refine⟨.own (.dict (mkd l')),_,?_,rfl,(B.all (fun k h=>by show(f k).bind _=none;rw[h];rfl) C).toSem⟩;rw[e9,aM,e];rfl
 |join a b fs =>
  refine fun _=>⟨fun _ m n d t hn hd=>?_,fun h=>by exact bft h⟩
  refine exnE (c:=3) n hn hn fun n hn=>?_
  revert hn;refine hd.by (fun m i _ hn=>?_) fun m l f B hn=>?_
  ·exact Ra _ _ _ _ _
  ·rw[Ri];exact(Q4 H n B (by exact D1 hn)).rb
 |each v ih =>
  refine fun ho=>⟨fun _ m n d t hn hd=>?_,fun h=>by exact bft h⟩
  have hn:v.hgt+1+m+3≤n:=hn;refine exnE (c:=2) n hn hn fun n hn=>?_
  revert hn;refine hd.by (fun m i _ hn=>?_) fun m l f B hn=>?_
  ·exact Rb _ _ _
  ·have key:∀ xs:List Str,(∀ x∈xs,x∈ks l)→∃ ps:LP,aR (fun _=>.ok true) (fun d9=>aN [.ok (.fz d9),aG (rn (n+1) "_law_seen") [.ok (.fz (enc v)),ofP (getItem (.dict (mkd l)) d9)]]) (xs.map .str)=.ok (ps.map aZ)∧ks ps=xs∧∀ p∈ps,(p.2=.none∧(f p.1).bind (aL v)=none∧(f p.1).isSome=true)∨∃ u,(f p.1).bind (aL v)=some u∧Sem N m p.2 u:=by
    intro xs
    induction xs with
    |nil=>exact fun _=>⟨[],rfl,rfl,fun p hp=>by exact bT hp⟩
    |cons x r ihx =>
     intro hx;obtain⟨ps,e1,e2,e3⟩:=ihx fun y hy=>hx y (List.mem_cons_of_mem _ hy);obtain⟨d,u,h1,h2,h3⟩:=B.key (hx x (by simp));have hv:=(ih ho.1).1 ho.2 (n:=n+1) (by exact uP hn) h3;have hs:aR (fun _=>.ok true) (fun d9=>aN [.ok (.fz d9),aG (rn (n+1) "_law_seen") [.ok (.fz (enc v)),ofP (getItem (.dict (mkd l)) d9)]]) ((x::r).map .str)=rb (nx (aN [.ok (.fz (.str x)),aG (rn (n+1) "_law_seen") [.ok (.fz (enc v)),ofP (getItem (.dict (mkd l)) (.str x))]])) fun w=>rb (.ok (ps.map aZ)) fun xs=>.ok (dOf w::xs):=by rw[← e1];rfl
     rw[hs,dS h1];refine ocs (aL v u) (fun hsu=>?_) fun s hsu=>?_
     ·try rewrite[hsu]
      rw[hsu] at hv;refine⟨(x,.none)::ps,?_,by rw[← e2];rfl,fun p hp=>?_⟩
      ·rw[fW (.str x) (show aG (rn (n+1) "_law_seen") [.ok (.fz (enc v)),ofP (.ok (.fz d))]=.ok (.fz .none) from hv) rfl];rfl
      ·rcases List.mem_cons.mp hp with rfl | hp
       ·exact .inl ⟨rfl,by show(f x).bind _=none;rw[h2];exact hsu,by show(f x).isSome=true;rw[h2];rfl⟩
       ·exact e3 p hp
     ·try rewrite[hsu]
      rw[hsu] at hv;obtain⟨w,d',g1,g2,g3⟩:=hv;refine⟨(x,d')::ps,?_,by rw[← e2];rfl,fun p hp=>?_⟩
      ·rw[fW (.str x) (show aG (rn (n+1) "_law_seen") [.ok (.fz (enc v)),ofP (.ok (.fz d))]=.ok w from g1) g2];rfl
      ·rcases List.mem_cons.mp hp with rfl | hp
       ·exact .inr ⟨s,by show(f x).bind _=_;rw[h2];exact hsu,g3⟩
       ·exact e3 p hp
   obtain⟨ps,e1,e2,e3⟩:=key (ks l) fun _ h=>h;have hl:ps.length < 4096:=by
    have:=congrArg List.length e2;rw[fA,fA] at this;have:=B.lt H (k:=4096) (by decide);lia
   rw[Rh,e9];refine bR.rb ?_;show bR N (m+1) (grd _ _) (aG (rn (n+1) "_law_several") [rb (aR _ _ ((ks l).map .str)) fun r=>ofP (own (.list r))]);rw[e1];show bR N (m+1) (grd _ _) (rn (n+1) "_law_several" [.fz (.list (ps.map aZ))])
   by_cases hc:∀ k x,f k=some x→(aL v x).isSome=true
   ·rw[iL hc];have e4:∀ p∈ps,∃ u,(f p.1).bind (aL v)=some u∧Sem N m p.2 u:=fun p hp=>by
     rcases e3 p hp with ⟨_,h2,h3⟩ | h
     ·obtain⟨u,hu⟩:=n0 h3;rw[hu] at h2;have:=hc p.1 u hu;rw[show aL v u=none from h2] at this;exact bft this
     ·exact h
    refine⟨_,_,Aq n (fun p hp=>?_) hl,rfl,((iR (F:=fun k=>(f k).bind (aL v)) Bld.nil fun p hp=>⟨?_,e4 p hp⟩).ext fun k=>?_).toSem⟩
    ·obtain⟨u,_,h⟩:=e4 p hp;exact h.notNone
    ·exact B.sub p.1 (e2▸List.mem_map_of_mem (f:=(·.1)) hp)
    ·rw[e2]
     by_cases hk:k∈ks l
     ·rw[if_pos hk]
     ·rw[if_neg hk];refine ocs (f k) (fun ef=>?_) fun u ef=>?_
      ·try rewrite[ef]
       rfl
      ·try rewrite[ef]
       exact absurd (B.mem.mpr (by rw[ef];rfl)) hk
   ·rw[iM hc];simp only[Classical.not_forall] at hc;obtain⟨k,x,hk,hx⟩:=hc;have hkl:k∈ks ps:=e2▸B.mem.mpr (by rw[hk];rfl);obtain⟨p,hp,rfl⟩:=List.mem_map.mp hkl;rcases e3 p hp with ⟨h1,_,_⟩ | ⟨u,h,_⟩
    ·exact Ap n hp h1
    ·rw[hk] at h;rw[show aL v x=some u from h] at hx;exact absurd rfl hx
 |andThen a b iha ihb =>
  refine fun ho=>⟨fun _ m n d t hn hd=>?_,fun h=>by exact bft h⟩
  have hn:max a.hgt b.hgt+1+m+3≤n:=hn;refine exnE (c:=1) n hn hn fun n hn=>?_;have ha:=(iha ho.1.1).1 ho.1.2 (n:=n) (by exact D2 hn) hd;rw[Q6];show bR N m ((aL a t).bind (aL b)) _;refine ocs (aL a t) (fun hs=>?_) fun mid hs=>?_
  ·try rewrite[hs]
   rw[hs] at ha;have ha:rn n "_law_seen" [.fz (enc a),.fz d]=.ok (.fz .none):=ha;rw[ha];rfl
  ·try rewrite[hs]
   rw[hs] at ha;obtain⟨v,d',g1,g2,g3⟩:=ha;rw[g1,aF,g2,Option.bind_some];refine bR.rb ?_;show bR N m _ (d6 (.ok (.fz (.bool (dT d')))) (.ok (.fz .none)) (rn n "_law_seen" [.fz (enc b),.fz d']));rw[g3.notNone];exact(ihb ho.2.1).1 ho.2.2 (n:=n) (by exact D3 hn) g3
 |beside r ih =>
  refine fun ho=>⟨fun _ m n d t hn hd=>?_,fun h=>by exact bft h⟩
  have hn:r.hgt+1+m+3≤n:=hn;refine exnE (c:=2) n hn hn fun n hn=>?_
  revert hn;refine hd.by (fun m i _ hn=>?_) fun m l f B hn=>?_
  ·have:aL (.beside r) (.num i:TT)=none:=by
    cases r with
    |bcons=>rfl
    |bnil=>have:=ho.2.1;simp[rZ,r9] at this
    |_=>cases ho.1.2
   rw[this];exact Rc _ _ _
  ·obtain⟨f1,f2⟩:=Rl (l:=l) ho.1.2 ho.1.1;rw[Rg,gN ho.1.2];show bR N (m+1) (aL r (.br f)) (ifS (aD (aO (.ok (a8 r)) _ _) _ _) _ _);rw[An f1]
   by_cases hp:∀ p∈r.parts,(f p).isSome=true
   case neg =>
    have:((a8 r).filter fun d=>!(lk l (tK d)).isSome).isEmpty=false:=by
     rw[Bool.eq_false_iff];exact fun h=>hp fun p hp=>by rw[← B.dom];exact f2.mp h p hp
    rw[this];refine ocs (aL r (.br f)) (fun hs=>?_) fun z hs=>?_
    ·try rewrite[hs]
     rfl
    ·try rewrite[hs]
     exact absurd (Rk ho.1.2 ho.1.1.wf hs) hp
   rw[f2.mpr fun p h=>by rw[B.dom];exact hp p h];obtain⟨ps,e1,e2,e3⟩:=(ih ho.1.1).2 ho.1.2 (n:=n+1) (by exact uP hn) B hp;have hl:ps.length < 4096:=by
    have:=congrArg List.length e2;rw[fA] at this;have:=ho.2.2;lia
   show bR N (m+1) _ (rb (aG (rn (n+1) "_law_several") [rb (aR (fun _=>.ok true) (tL (n+1) l) (a8 r)) fun r=>ofP (own (.list r))]) R.ok);refine bR.rb ?_;rw[e1];show bR N (m+1) _ (rn (n+1) "_law_several" [.fz (.list (ps.map aZ))]);rcases e3 with ⟨z,hz,e4⟩ | ⟨hz,p,hp,h0⟩
   ·obtain⟨zf,rfl,hd⟩:=Qs ho.1.2 ho.1.1.wf hz;rw[hz];refine⟨_,_,Aq n (fun p hp=>?_) hl,rfl,((iR (F:=zf) Bld.nil e4).ext fun k=>?_).toSem⟩
    ·obtain⟨_,u,_,h⟩:=e4 p hp;exact h.notNone
    ·rw[e2]
     by_cases hk:k∈r.names
     ·rw[if_pos hk]
     ·rw[if_neg hk];refine ocs (zf k) (fun ef=>?_) fun u ef=>?_
      ·try rewrite[ef]
       rfl
      ·try rewrite[ef]
       exact absurd ((hd k).mp (by rw[ef];rfl)) hk
   ·rw[hz];exact Ap n hp h0
 |bnil =>
  exact fun _=>⟨fun h=>(by cases h),fun _ m n l f hn B hp=>⟨[],rfl,rfl,.inl ⟨_,rfl,fun p hp=>by cases hp⟩⟩⟩
 |bcons x p v r ihv ihr =>
  refine fun ho=>⟨fun h=>(by exact btf h),fun _ m n l f hn B hp=>?_⟩
  have hn:max v.hgt r.hgt+m+3≤n:=hn;obtain⟨ps,e1,e2,e3⟩:=(ihr ho.2.2.1.1).2 ho.2.2.1.2 (n:=n) (by exact D4 hn) B fun q hq=>hp q (List.mem_cons_of_mem _ hq);obtain⟨u,hu⟩:=n0 (hp p (by simp[Pp,Pq]));obtain⟨d,h1,h2⟩:=B.get hu;have hv:=(ihv ho.2.1.1).1 ho.2.1.2 (n:=n) (by exact D5 hn) h2;have hs:aR (fun _=>.ok true) (tL n l) (a8 (.bcons x p v r))=rb (nx (aN [.ok (.fz (.str x)),aG (rn n "_law_seen") [.ok (.fz (enc v)),ofP (getItem (.dict (mkd l)) (.str p))]])) fun w=>rb (.ok (ps.map aZ)) fun xs=>.ok (dOf w::xs):=by rw[← e1];rfl
  have hst:aL (.bcons x p v r) (.br f)=(aL v u).bind fun y=>(aL r (.br f)).bind fun z=>some (.br (upd z.get x (some y))):=by
   show(f p).bind _=_;rw[hu];rfl
  rw[hs,dS h1,hst];refine ocs (aL v u) (fun hsu=>?_) fun s hsu=>?_
  ·try rewrite[hsu]
   rw[hsu] at hv;refine⟨(x,.none)::ps,?_,by rw[show ks ((x,PyData.none)::ps)=x::ks ps from rfl,e2];rfl,.inr ⟨rfl,(x,.none),by simp,rfl⟩⟩;rw[fW (.str x) (show aG (rn n "_law_seen") [.ok (.fz (enc v)),ofP (.ok (.fz d))]=.ok (.fz .none) from hv) rfl];rfl
  ·try rewrite[hsu]
   rw[hsu] at hv;obtain⟨w,d',g1,g2,g3⟩:=hv;refine⟨(x,d')::ps,?_,by rw[show ks ((x,d')::ps)=x::ks ps from rfl,e2];rfl,?_⟩
   ·rw[fW (.str x) (show aG (rn n "_law_seen") [.ok (.fz (enc v)),ofP (.ok (.fz d))]=.ok w from g1) g2];rfl
   ·rcases e3 with ⟨z,hz,e4⟩ | ⟨hz,q,hq,h0⟩
    ·rw[hz];refine .inl ⟨_,rfl,fun q hq=>?_⟩;rcases List.mem_cons.mp hq with rfl | hq
     ·exact⟨ho.1.1,s,by simp[nR,upd],g3⟩
     ·obtain⟨i1,u',i2,i3⟩:=e4 q hq;refine⟨i1,u',?_,i3⟩;have hne:q.1≠x:=fun e=>ho.2.2.2.1 (e▸e2▸List.mem_map_of_mem (f:=(·.1)) hq);simp only[nR,upd,if_neg hne];exact i2
    ·rw[hz];exact .inr ⟨rfl,q,List.mem_cons_of_mem _ hq,h0⟩
end Mine
namespace Mine
open PySem
theorem aP(a:Int){n:Int}(h:0 < n):0≤a.fmod n∧a.fmod n < n:=by
 rw[Int.fmod_eq_emod_of_nonneg a (by exact oR h)];exact⟨Int.emod_nonneg a (by exact D6 h),Int.emod_lt_of_pos a h⟩
theorem eP(x:Int){y:Int}(h:y≠0):aC .Mod (.int x) (.int y)=.ok (.fz (.int (x.fmod y))):=if_pos h
theorem gO(x:Int){y:Int}(h:y.natAbs < 2 ^ 63):aC .Mult (.int x) (.int y)=.ok (.fz (.int (x*y))):=if_pos (.inr h)
theorem kS(l:List PyData)(t:PyData→R Bool)(e:PyData→R V):aO (.ok l) t e=rb (aR t e l) fun r=>ofP (own (.list r)):=rfl
theorem kT{x:Int}(y:Int)(h:x.natAbs < 2 ^ 63):aC .Mult (.int x) (.int y)=.ok (.fz (.int (x*y))):=if_pos (.inl h)
theorem iV{l:List PyData}{k:Int}{d:PyData}(h0:0≤k)(h:l[k.toNat]?=some d):getItem (.list l) (.int k)=.ok (.fz d):=by
 have hk:k.toNat < l.length:=(List.getElem?_eq_some_iff.mp h).1;show(if 0≤k then (if 0≤k∧k < l.length then frz l[k.toNat]? else .no) else atN l k)=_;rw[if_pos h0,if_pos ⟨h0,by exact D7 hk⟩,h];rfl
noncomputable def Li(s:List Int):PyData:=.list (s.map .int)
noncomputable def dH(s:List Int)(k:Int):Int:=if k < s.length then (s[k.toNat]?).getD 0 else 0
noncomputable def bC(s:List Int)(k:Int):Int:=(dH s (2+k.fmod 24)*48271+7919*k+12345).fmod 2147483647
theorem tM(n:Nat)(s:List Int){k:Int}(hk:0≤k):rn (n+1) "_law_cell_at" [.fz (Li s),.fz (.int k)]=.ok (.fz (.int (dH s k))):=by
 rw[Nv];show(if decide (k < ((s.map PyData.int).length:Int))=true then rb (ofP (getItem (.list (s.map .int)) (.int k))) R.ok else R.ok (.fz (.int 0)))=_;rw[List.length_map];unfold dH
 by_cases h:k < s.length
 ·have hl:k.toNat < s.length:=by exact D8 hk h
  rw[if_pos (decide_eq_true h),if_pos h,iV hk (by rw[List.getElem?_map,List.getElem?_eq_getElem hl];rfl),List.getElem?_eq_getElem hl];rfl
 ·rw[if_neg (by simpa using h),if_neg h]
theorem fX(n:Nat)(s:List Int)(k:Int):rn (n+2) "_law_mixed" [.fz (Li s),.fz (.int k)]=.ok (.fz (.int (bC s k))):=by
 rw[Nw];have h:=(aP k (n:=24) (by decide)).1;refine Eq.trans (b:=rb (aB .Mod (aB .Add (aB .Add (aB .Mult (rn (n+1) "_law_cell_at" [.fz (Li s),.fz (.int (2+k.fmod 24))]) (.ok (.fz (.int 48271)))) (ofP (aC .Mult (.int 7919) (.int k)))) (.ok (.fz (.int 12345)))) (.ok (.fz (.int 2147483647)))) R.ok) (by kernel_rfl) ?_;rw[tM n s (by exact D9 h),show aB .Mult (.ok (.fz (.int (dH s (2+k.fmod 24))))) (.ok (.fz (.int 48271)))=.ok (.fz (.int (dH s (2+k.fmod 24)*48271))) from congrArg ofP (gO _ (by decide)),kT _ (by decide)];rfl
theorem Au{n:Nat}{m:Int}(h0:0≤m)(h1:m < n):∃ k:Nat,k∈List.range n∧m=k:=by
 obtain⟨k,rfl⟩:=Int.eq_ofNat_of_zero_le h0;exact⟨k,List.mem_range.mpr (Int.ofNat_lt.mp h1),rfl⟩
theorem Ro{m:Int}(h:0≤m∧m < 14):∃ i:Int,aK dX (aB .Mult (.ok (.fz (.str (so "37")))) (.ok (.fz (.int (1+m)))))=.ok (.fz (.int i))∧0≤i∧i < 10 ^ 28:=by
 have all:∀ k∈List.range 14,∃ i:Int,aK dX (aB .Mult (.ok (.fz (.str (so "37")))) (.ok (.fz (.int (1+(k:Int))))))=.ok (.fz (.int i))∧0≤i∧i < 10 ^ 28:=by
  rw[show List.range 14=[0,1,2,3,4,5,6,7,8,9,10,11,12,13] from rfl]
  repeat rw[List.forall_mem_cons]
  exact⟨⟨37,by kernel_rfl,by decide⟩,⟨3737,by kernel_rfl,by decide⟩,⟨373737,by kernel_rfl,by decide⟩,⟨37373737,by kernel_rfl,by decide⟩,⟨3737373737,by kernel_rfl,by decide⟩,⟨373737373737,by kernel_rfl,by decide⟩,⟨37373737373737,by kernel_rfl,by decide⟩,⟨3737373737373737,by kernel_rfl,by decide⟩,⟨373737373737373737,by kernel_rfl,by decide⟩,⟨37373737373737373737,by kernel_rfl,by decide⟩,⟨3737373737373737373737,by kernel_rfl,by decide⟩,⟨373737373737373737373737,by kernel_rfl,by decide⟩,⟨37373737373737373737373737,by kernel_rfl,by decide⟩,⟨3737373737373737373737373737,by kernel_rfl,by decide⟩,fun _ h=>nomatch h⟩
 obtain⟨k,hk,rfl⟩:=Au h.1 h.2;exact all k hk
inductive RInt(r:R V)(b:Nat):Prop where
 |mk (i:Int) (e:r=.ok (.fz (.int i))) (h:i.natAbs < b):RInt r b
theorem RInt.of{r r':R V}{b:Nat}(h:r=r')(x:RInt r' b):RInt r b:=h▸x
theorem nb4{m q:Int}(hm:0≤m∧m < 4)(hq:0≤q∧q < 3):RInt (rb (aB .Add (aJ (d8 (cS [(ofP (aC .Pow (.int 10) (.int 20))),(unS .USub (ofP (aC .Pow (.int 10) (.int 20)))),(ofP (aC .Pow (.int 10) (.int 12))),(.ok (.fz (.int 0)))])) (.ok (.fz (.int m)))) (.ok (.fz (.int q)))) R.ok) big:=by
 have all:∀ k∈List.range 4,∃ i:Int,rb (aB .Add (aJ (d8 (cS [(ofP (aC .Pow (.int 10) (.int 20))),(unS .USub (ofP (aC .Pow (.int 10) (.int 20)))),(ofP (aC .Pow (.int 10) (.int 12))),(.ok (.fz (.int 0)))])) (.ok (.fz (.int (k:Int))))) (.ok (.fz (.int q)))) R.ok=.ok (.fz (.int (i+q)))∧i.natAbs≤10 ^ 20:=by
  rw[show List.range 4=[0,1,2,3] from rfl]
  repeat rw[List.forall_mem_cons]
  exact⟨⟨10 ^ 20,by kernel_rfl,by decide⟩,⟨-10 ^ 20,by kernel_rfl,by decide⟩,⟨10 ^ 12,by kernel_rfl,by decide⟩,⟨0,by kernel_rfl,by decide⟩,fun _ h=>nomatch h⟩
 obtain⟨k,hk,rfl⟩:=Au hm.1 hm.2;obtain⟨i,e,hi⟩:=all k hk;exact⟨i+q,e,by unfold big;omega⟩
theorem tN(n:Nat)(c:Int):RInt (rn (n+1) "_law_number" [.fz (.int c)]) big:=by
 rw[Nz];refine RInt.of (r':=(if (c.fmod 5==4)=true then rb (aB .Add (aJ (d8 (cS [(ofP (aC .Pow (.int 10) (.int 20))),(unS .USub (ofP (aC .Pow (.int 10) (.int 20)))),(ofP (aC .Pow (.int 10) (.int 12))),(.ok (.fz (.int 0)))])) (.ok (.fz (.int ((c.fdiv 5).fmod 4))))) (.ok (.fz (.int ((c.fdiv 20).fmod 3))))) R.ok else if (c.fmod 5==3)=true then rb (aB .Sub (aB .Mod (ofP (aC .Mult (.int (c.fdiv 5)) (.int 48271))) (.ok (.fz (.int 2000003)))) (.ok (.fz (.int 1000001)))) R.ok else if (c.fmod 15==2)=true then rb (aB .Mult (aK dX (aB .Mult (.ok (.fz (.str (so "37")))) (.ok (.fz (.int (1+(c.fdiv 15).fmod 14)))))) (aB .Sub (.ok (.fz (.int 1))) (ofP (aC .Mult (.int ((c.fdiv 210).fmod 2)) (.int 2))))) R.ok else R.ok (.fz (.int ((c.fdiv 5).fmod 9 - 4))))) (by kernel_rfl) ?_
 split
 ·exact nb4 (aP _ (by decide)) (aP _ (by decide))
 split
 ·rw[gO _ (by decide)];refine⟨(c.fdiv 5*48271).fmod 2000003 - 1000001,rfl,?_⟩;have:=aP (c.fdiv 5*48271) (n:=2000003) (by decide);unfold big;omega
 split
 ·obtain⟨i,hi,hb⟩:=Ro (aP (c.fdiv 15) (n:=14) (by decide));have hq:=aP (c.fdiv 210) (n:=2) (by decide);rw[hi,gO _ (by decide)];refine⟨i*(1 - (c.fdiv 210).fmod 2*2),?_,?_⟩
  ·show rb (ofP (aC .Mult (.int i) (.int (1 - (c.fdiv 210).fmod 2*2)))) R.ok=_;rw[gO _ (by omega)];rfl
  ·have:(c.fdiv 210).fmod 2=0∨(c.fdiv 210).fmod 2=1:=by exact Ea hq
   unfold big;rcases this with h | h<;>rw[h]<;>omega
 ·refine⟨_,rfl,?_⟩;have:=aP (c.fdiv 5) (n:=9) (by decide);unfold big;omega
theorem Rp:∀ (r:List Nat) (acc:Array Nat),(r.map fun c=>(⟨#[c]⟩:Str)).foldl (fun acc p=>acc++(so "").cps++p.cps) acc=acc++r.toArray:=by
 intro v0
 induction v0 with
 |nil =>
  intro acc;simp
 |cons c r ih =>
  intro acc;simp only[List.map_cons,List.foldl_cons];rw[ih];have:(so "").cps=#[]:=rfl;rw[this];simp
theorem Rq(cs:List Nat):Txt.join (so "") (cs.map fun c=>⟨#[c]⟩)=⟨cs.toArray⟩:=by
 show Builtin.Str.glued _ _=_;unfold Builtin.Str.glued;cases cs with
 |nil=>rfl
 |cons c r =>
  simp only[List.map_cons,List.drop_succ_cons,List.drop_zero,List.headD_cons];rw[Rp];simp
theorem Av:∀ cs:List Nat,strs? (cs.map bF)=some (cs.map fun c=>⟨#[c]⟩)
 | []=>rfl
 |c::r=>by
  show(strs? (r.map bF)).map (_::·)=_;rw[Av r];rfl
theorem Rr:∀ (cs:List Nat) (a:Nat),(cs.map fun c=>(⟨#[c]⟩:Str)).foldl (fun x y=>x+y.length+(so "").length) a=a+cs.length:=by
 intro v0
 induction v0 with
 |nil =>
  intro a;simp
 |cons c r ih =>
  intro a;simp only[List.map_cons,List.foldl_cons];rw[ih];have:(so "").length=0:=rfl;have h1:(⟨#[c]⟩:Str).length=1:=rfl;rw[this,h1];simp;exact Eb
theorem Aw{cs:List Nat}(h:cs.length≤1000):dK (.str (so "")) [.list (cs.map bF)]=.ok (.fz (.str ⟨cs.toArray⟩)):=by
 have e:dK (.str (so "")) [.list (cs.map bF)]=(ofO (strs? (cs.map bF))).bind fun l=>if JoinOk (so "") l then fz (.str (Txt.join (so "") l)) else .no:=rfl;rw[e,Av,e6,eZ];have hj:JoinOk (so "") (cs.map fun c=>⟨#[c]⟩)=true:=by
  unfold JoinOk Builtin.Str.tooLong;rw[List.foldl_toArray',Rr]<;>simp[sizeLine];exact Ec h
 rw[if_pos hj,Rq];rfl
theorem iW{n:Nat}{a:Int}(h0:0≤a)(h1:a≤n):clipAt n a=a.toNat:=by
 unfold clipAt;rw[if_neg (Int.not_lt.mpr h0),Int.min_eq_left h1,Int.max_eq_right h0]
theorem Ax{n:Nat}{a:Int}(h0:0≤a)(h1:(n:Int)≤a):clipAt n a=n:=by
 unfold clipAt;rw[if_neg (Int.not_lt.mpr h0),Int.min_eq_right h1,Int.max_eq_right (Int.natCast_nonneg n),Int.toNat_natCast]
theorem tO{α:Type}(l:List α){k:Int}(h:0≤k):slice l none (some k)=l.take k.toNat:=by
 show(l.drop 0).take (clipAt l.length k - 0)=_;rw[List.drop_zero,Nat.sub_zero];rcases Int.le_total k l.length with hk | hk
 ·rw[iW h hk]
 ·rw[Ax h hk,List.take_of_length_le (Nat.le_refl _),List.take_of_length_le];have:=Int.toNat_le_toNat hk
  rwa [Int.toNat_natCast] at this
noncomputable def LET:Str:=so "abcdefghijklmnopqrstuvwxyz"
noncomputable def ltr(m:Int):Nat:=(LET.cps[m.toNat]?).getD 0
theorem Ay:∀ i:_root_.Fin 26,(LET.cps[i.val]?).isSome=true∧inL ((LET.cps[i.val]?).getD 0)=true∧(LET.cps[i.val]?).getD 0 < 16 ^ 8:=by decide +kernel
theorem tP(x:Int):getItem (.str (so "abcdefghijklmnopqrstuvwxyz")) (.int (x.fmod 26))=.ok (.fz (bF (ltr (x.fmod 26)))):=by
 have h:=aP x (n:=26) (by decide);show(if 0≤x.fmod 26∧x.fmod 26 < LET.cps.size then frz (LET.cps[(x.fmod 26).toNat]?.map bF) else .no)=_;rw[if_pos ⟨h.1,by show _ < ((26:Nat):Int);exact Ed h⟩];have hs:(LET.cps[(x.fmod 26).toNat]?).isSome=true:=(Ay ⟨(x.fmod 26).toNat,by exact kZ h⟩).1;unfold ltr;cases e:LET.cps[(x.fmod 26).toNat]? with
 |none=>rw[e] at hs;exact bft hs
 |some c=>rfl
theorem tQ{a:Int}(ha:0≤a∧a < 26):inL (ltr a)=true∧ltr a < 16 ^ 8:=(Ay ⟨a.toNat,by exact kZ ha⟩).2
theorem Az{a b:Int}(ha:0≤a∧a < 26)(hb:0≤b∧b < 26)(h:ltr a=ltr b):a=b:=by
 have key:∀ i j:_root_.Fin 26,(LET.cps[i.val]?).getD 0=(LET.cps[j.val]?).getD 0→i=j:=by decide +kernel
 have:=key ⟨a.toNat,by exact kZ ha⟩ ⟨b.toNat,by exact kZ hb⟩ h;have:=congrArg _root_.Fin.val this;simp at this;exact Ee ha hb this
noncomputable def eD(c:Int):List Nat:=[0,1,2,3,4,5,6,7].map fun j:Int=>ltr ((c.fdiv 8+5*j).fmod 26)
noncomputable def nm(c k:Int):List Nat :=
 if (c.fdiv 1664).fmod 3=1 then ((eD c).set 0 (ltr ((c.fdiv 8+k.fdiv 8).fmod 26))).take (1+k.fmod 8).toNat
 else ((eD c).set ((c.fdiv 208).fmod (1+c.fmod 8)).toNat (ltr ((c.fdiv 8+7+k).fmod 26))).take (1+c.fmod 8).toNat
theorem A0{cs:List Nat}{k:Int}(h:0≤k∧k < cs.length)(x:Nat):Mine.setItem (.list (cs.map bF)) (.int k) (bF x)=.ok (.list ((cs.set k.toNat x).map bF)):=by
 show(if 0≤k∧k < (cs.map bF).length then P.ok (PyData.list ((cs.map bF).set k.toNat (bF x))) else .no)=_;rw[if_pos (by simpa using h),List.map_set]
theorem Rs(c:Int):aO (rgI (.ok (.fz (.int 8)))) (fun d2=>(.ok true)) (fun d2=>(aJ (.ok (.str (so "abcdefghijklmnopqrstuvwxyz"))) (aB .Mod (aB .Add (ofP (aC .FloorDiv (.int c) (.int 8))) (ofP (aC .Mult (.int 5) d2))) (.ok (.fz (.int 26))))))=.ok (.own (.list ((eD c).map bF))):=by
 rw[show rgI (.ok (.fz (.int 8)))=.ok ([0,1,2,3,4,5,6,7].map PyData.int) from by kernel_rfl,kS,iQ (g:=fun d=>match d with | .int j=>bF (ltr ((c.fdiv 8+5*j).fmod 26)) | d=>d)]
 ·rfl
 ·intro d hd;obtain⟨j,_,rfl⟩:=List.mem_map.mp hd;refine⟨rfl,.fz (bF (ltr ((c.fdiv 8+5*j).fmod 26))),?_,rfl⟩;refine Eq.trans (b:=ofP (getItem (.str (so "abcdefghijklmnopqrstuvwxyz")) (.int ((c.fdiv 8+5*j).fmod 26)))) (by kernel_rfl) ?_;rw[tP];rfl
theorem gP(c:Int):(eD c).length=8:=rfl
theorem Rt(n:Nat)(c k:Int):rn (n+1) "_law_name" [.fz (.int c),.fz (.int k)]=.ok (.fz (.str ⟨(nm c k).toArray⟩)):=by
 rw[Nx];have h8:=aP c (n:=8) (by decide);have k8:=aP k (n:=8) (by decide);have hp:=aP (c.fdiv 208) (n:=1+c.fmod 8) (by exact Ef h8);rw[Rs c];refine Eq.trans (b:=if ((c.fdiv 1664).fmod 3==1)=true then rb (ofP (getItem (.str (so "abcdefghijklmnopqrstuvwxyz")) (.int ((c.fdiv 8+k.fdiv 8).fmod 26)))) (fun v=>rb (ofP (Mine.setItem (.list ((eD c).map bF)) (.int 0) (dOf v))) fun o=>rb (rb (rb (ofP (gW o none (some (1+k.fmod 8)))) fun v=>.ok [v.clear]) fun as=>ofP (dK (.str (so "")) (bJ as))) R.ok) else rb (ofP (getItem (.str (so "abcdefghijklmnopqrstuvwxyz")) (.int ((c.fdiv 8+7+k).fmod 26)))) (fun v=>rb (ofP (aC .Mod (.int (c.fdiv 208)) (.int (1+c.fmod 8)))) fun i=>rb (ofP (Mine.setItem (.list ((eD c).map bF)) (dOf i) (dOf v))) fun o=>rb (rb (rb (ofP (gW o none (some (1+c.fmod 8)))) fun v=>.ok [v.clear]) fun as=>ofP (dK (.str (so "")) (bJ as))) R.ok)) (by kernel_rfl) ?_;unfold nm
 by_cases h:(c.fdiv 1664).fmod 3=1
 ·rw[if_pos (by simpa using h),if_pos h,tP,aM,aF,e8,A0 (by simp[gP]),aM,aF];show rb (ofP (dK (.str (so "")) [.list (slice (((eD c).set 0 _).map bF) none (some (1+k.fmod 8)))])) R.ok=_;rw[tO _ (by exact uQ k8),← List.map_take,Aw (by simp[gP];exact uR)];rfl
 ·rw[if_neg (by simpa using h),if_neg h,tP,aM,aF,e8,eP _ (by exact Eg h8),aM,aF,e8,A0 (by simp[gP];exact Eh h8 hp),aM,aF];show rb (ofP (dK (.str (so "")) [.list (slice (((eD c).set _ _).map bF) none (some (1+c.fmod 8)))])) R.ok=_;rw[tO _ (by exact uQ h8),← List.map_take,Aw (by simp[gP];exact uR)];rfl
theorem Ru(c k:Int):okN ⟨(nm c k).toArray⟩:=by
 have base:∀ x∈eD c,inL x=true∧x < 16 ^ 8:=by
  intro x hx;obtain⟨j,_,rfl⟩:=List.mem_map.mp hx;exact tQ (aP _ (by decide))
 have h8:=aP c (n:=8) (by decide);have k8:=aP k (n:=8) (by decide);refine⟨?_,?_,fun x hx=>?_⟩
 ·show 1≤(nm c k).toArray.size;rw[List.size_toArray];unfold nm
  split<;>simp[gP]<;>lia
 ·show(nm c k).toArray.size≤8;rw[List.size_toArray];unfold nm
  split<;>simp[gP]<;>lia
 ·have hx:x∈nm c k:=by simpa using hx
  unfold nm at hx
  split at hx
  ·rcases List.mem_or_eq_of_mem_set (List.mem_of_mem_take hx) with h | h
   ·exact base x h
   ·rw[h];exact tQ (aP _ (by decide))
  ·rcases List.mem_or_eq_of_mem_set (List.mem_of_mem_take hx) with h | h
   ·exact base x h
   ·rw[h];exact tQ (aP _ (by decide))
theorem A1{x a b:Int}(ha:0≤a∧a < 26)(hb:0≤b∧b < 26)(h:(x+a).fmod 26=(x+b).fmod 26):a=b:=by
 rw[Int.fmod_eq_emod_of_nonneg _ (by decide),Int.fmod_eq_emod_of_nonneg _ (by decide)] at h;exact Ei ha hb h
theorem fd8{k:Int}(hk:0≤k∧k < 14):0≤k.fdiv 8∧k.fdiv 8 < 26:=by
 rw[Int.fdiv_eq_ediv_of_nonneg _ (by decide)];exact Ej hk
theorem ml8{a b:Int}(ha:0≤a∧a < 8)(hb:0≤b∧b < 8)(h:min (1+a).toNat 8=min (1+b).toNat 8):a=b:=by exact Ek ha hb h
theorem po8{a:Int}(ha:0≤a∧a < 8):0 < (1+a).toNat:=by exact El ha
theorem lt8{a b:Int}(ha:0≤a∧a < 8)(hb:0≤b∧b < 1+a):b.toNat < 8∧b.toNat < (1+a).toNat:=by exact Em ha hb
theorem Rv{c k k':Int}(hk:0≤k∧k < 14)(hk':0≤k'∧k' < 14)(h:nm c k=nm c k'):k=k':=by
 unfold nm at h
 by_cases hc:(c.fdiv 1664).fmod 3=1
 ·rw[if_pos hc,if_pos hc] at h;have hl:=congrArg List.length h;simp only[List.length_take,List.length_set,gP] at hl;have h8:=ml8 (aP k (by decide)) (aP k' (by decide)) hl;have he:=congrArg (fun l=>l[0]?) h;simp only[List.getElem?_take,List.getElem?_set,if_pos (po8 (aP k (n:=8) (by decide))),if_pos (po8 (aP k' (n:=8) (by decide))),if_pos (show 0 < (eD c).length from Nat.succ_pos 7),if_true] at he;have hl2:=A1 (fd8 hk) (fd8 hk') (Az (aP _ (by decide)) (aP _ (by decide)) (si he));rw[← Int.mul_fdiv_add_fmod k 8,← Int.mul_fdiv_add_fmod k' 8,hl2,h8]
 ·rw[if_neg hc,if_neg hc] at h;have h8:=aP c (n:=8) (by decide);obtain⟨h1,h2⟩:=lt8 h8 (aP (c.fdiv 208) (n:=1+c.fmod 8) (Int.lt_add_one_of_le h8.1 |> fun h=>by rw[Int.add_comm];exact h));have he:=congrArg (fun l=>l[((c.fdiv 208).fmod (1+c.fmod 8)).toNat]?) h;simp only[List.getElem?_take,List.getElem?_set,if_pos h2,if_pos (show _ < (eD c).length from h1),if_true] at he;exact A1 ⟨hk.1,Int.lt_trans hk.2 (by decide)⟩ ⟨hk'.1,Int.lt_trans hk'.2 (by decide)⟩ (Az (aP _ (by decide)) (aP _ (by decide)) (si he))
noncomputable def nsI:List Int:=[0,1,2,3,4,5,6,7,8,9,10,11,12,13]
noncomputable def nms(c:Int):List Str:=nsI.map fun k=>⟨(nm c k).toArray⟩
theorem Rw(c:Int):Wld (nms c):=by
 refine⟨rfl,?_,fun x hx=>?_⟩
 ·refine List.Pairwise.map _ (R:=fun a b=>(0≤a∧a < 14)∧(0≤b∧b < 14)∧a≠b) (fun a b h e=>?_) (by unfold nsI;decide);have:(nm c a).toArray=(nm c b).toArray:=Str.mk.inj e;exact h.2.2 (Rv h.1 h.2.1 (by simpa using congrArg Array.toList this))
 ·obtain⟨k,_,rfl⟩:=List.mem_map.mp hx;exact Ru c k
noncomputable def NL(N:List Str):PyData:=.list (N.map .str)
theorem Rx(n:Nat)(s:List Int):rn (n+2) "_law_names" [.fz (Li s)]=.ok (.own (NL (nms (dH s 0)))):=by
 rw[Ny];rw[show rgI (.ok (.fz (.int 14)))=.ok (nsI.map PyData.int) from by kernel_rfl,kS,iQ (g:=fun d=>match d with | .int k=>.str ⟨(nm (dH s 0) k).toArray⟩ | d=>d)]
 ·rfl
 ·intro d hd;obtain⟨j,_,rfl⟩:=List.mem_map.mp hd;refine⟨rfl,.fz (.str ⟨(nm (dH s 0) j).toArray⟩),?_,rfl⟩;rw[tM n s (by decide)];exact Rt n _ _
end Mine
namespace Mine
open PySem
theorem tR(x y:Int):aC .Add (.int x) (.int y)=.ok (.fz (.int (x+y))):=rfl
theorem tT(x y:Int):aC .Sub (.int x) (.int y)=.ok (.fz (.int (x - y))):=rfl
theorem iX(x:Int){y:Int}(h:y≠0∧y.natAbs < 2 ^ 63):aC .FloorDiv (.int x) (.int y)=.ok (.fz (.int (x.fdiv y))):=if_pos h
theorem tU(x y:Int):cmp .Lt (.int x) (.int y)=.ok (decide (x < y)):=rfl
theorem tV(x y:Int):cmp .Gt (.int x) (.int y)=.ok (decide (y < x)):=rfl
theorem tW(x y:Int):cmp .Eq (.int x) (.int y)=.ok (x==y):=rfl
end Mine
namespace Mine
open PySem
variable {N:List Str} {m:Nat}
noncomputable def Tr(N:List Str)(m:Nat)(d:PyData):Prop:=∃ t,Sem N m d t
noncomputable def BT(N:List Str)(m:Nat)(l:LP):Prop:=∃ f,Bld N m l f
theorem BT.nil:BT N m []:=⟨_,Bld.nil⟩
theorem BT.set{l:LP}(B:BT N m l){k:Str}{d:PyData}(hk:k∈N)(h:Tr N m d):BT N m (st l k d):=by
 obtain⟨f,B⟩:=B;obtain⟨t,h⟩:=h;exact⟨_,B.set hk h⟩
theorem BT.toTr{l:LP}(B:BT N m l):Tr N (m+1) (.dict (mkd l)):=by obtain⟨f,B⟩:=B;exact⟨_,B.toSem⟩
theorem BT.lt(H:Wld N){l:LP}(B:BT N m l){k:Nat}(hk:14 < k):l.length < k:=by obtain⟨f,B⟩:=B;exact B.lt H hk
theorem Tr.int{i:Int}(h:i.natAbs < big):Tr N m (.int i):=⟨_,.num h⟩
theorem Tr.mono{m':Nat}{d:PyData}(h:Tr N m d)(hm:m≤m'):Tr N m' d:=by obtain⟨t,h⟩:=h;exact⟨t,h.mono hm⟩
inductive NlA(N:List Str)(i:Int)(r:P V):Prop where
 |mk (x:Str) (h:x∈N) (g:N[i.toNat]?=some x) (e:r=.ok (.fz (.str x))):NlA N i r
theorem cU(H:Wld N){i:Int}(h:0≤i∧i < 14):NlA N i (getItem (NL N) (.int i)):=by
 have hl:i.toNat < N.length:=by rw[H.len];exact En h
 refine⟨N[i.toNat],List.getElem_mem hl,List.getElem?_eq_getElem hl,iV h.1 ?_⟩;rw[List.getElem?_map,List.getElem?_eq_getElem hl];rfl
theorem Ry:∀ {fs:List Str} {i:Int} {d:PyData},d∈cD i (fs.map .str)→∃ j f,d=.tuple [.int j,.str f]∧f∈fs:=by
 intro v0
 induction v0 with
 |nil =>
  intro _ _ h;exact bT h
 |cons x r ih =>
  intro i d h;rcases List.mem_cons.mp (show d∈.tuple [.int i,.str x]::cD (i+1) (r.map .str) from h) with rfl | h
  ·exact⟨i,x,rfl,by simp⟩
  ·obtain⟨j,f,e,hf⟩:=ih h;exact⟨j,f,e,by simp[hf]⟩
theorem A2{q r l:List PyData}{x:PyData}(h:[]++l=q++x::r):x∈l:=by
 have:x∈q++x::r:=by simp
 rw[← h] at this;simpa using this
noncomputable def tS(s:List Int)(k:Int)(N fs:List Str)(c:LP)(j:PyData)(row:Option V)(o:Option V×Option V×Option V):aA:=bZ (ζ (Li s)) (ζ (.int k)) (ζ (NL N)) (ζ (.list (fs.map .str))) (some (.own (.dict (mkd c)))) (ζ j) row o.1 o.2.1 o.2.2
theorem Rz(H:Wld N)(n:Nat)(s:List Int)(k j:Int){fs:List Str}(hf:∀ x∈fs,x∈N)(c:LP)(o:Option V×Option V×Option V):∃ r o',BT N 1 r∧∀ kn kr,aT (j8 (n+2)) j9 (cD 0 (fs.map .str)) (tS s k N fs c (.int j) (some (.own (.dict []))) o) kn kr=kn (tS s k N fs c (.int j) (some (.own (.dict (mkd r)))) o'):=by
 have L:=iP (S:=fun (r:LP) (o:Option V×Option V×Option V)=>tS s k N fs c (.int j) (some (.own (.dict (mkd r)))) o) (b:=j8 (n+2)) (t:=j9) (l:=cD 0 (fs.map .str)) (p:=[]) (a:=[]) (j:=o) (I:=fun _ r=>BT N 1 r) (E:=fun _=>False) (Q:=fun _=>False) (fun q d r a o hq hi=>by
  obtain⟨i,f,rfl,hff⟩:=Ry (A2 hq);obtain⟨x0,hx0,_,hg0⟩:=cU H (i:=0) (by decide);have hb:∀ kn kr,(rb (ofP (aS j9 (.tuple [.int i,.str f]) (tS s k N fs c (.int j) (some (.own (.dict (mkd a)))) o))) fun σ=>j8 (n+2) σ kn kr)=if decide (0 < (bC s (k+10*j+i+1)).fmod 4)=true then rb (rn (n+2) "_law_number" [.fz (.int ((bC s (k+10*j+i+1)).fdiv 4))]) (fun v=>rb (ofP (Mine.setItem (.dict (mkd a)) (.str f) (dOf v))) fun o2=>kn (tS s k N fs c (.int j) (some (.own o2)) (some (.fz (.int i)),some (.fz (.str f)),some (.fz (.int (bC s (k+10*j+i+1))))))) else if ((bC s (k+10*j+i+1)).fmod 12==0)=true then rb (ofP (Mine.setItem (.dict (mkd a)) (.str f) (.dict (mkd [(x0,.int (((bC s (k+10*j+i+1)).fdiv 12).fmod 5))])))) fun o2=>kn (tS s k N fs c (.int j) (some (.own o2)) (some (.fz (.int i)),some (.fz (.str f)),some (.fz (.int (bC s (k+10*j+i+1)))))) else kn (tS s k N fs c (.int j) (some (.own (.dict (mkd a)))) (some (.fz (.int i)),some (.fz (.str f)),some (.fz (.int (bC s (k+10*j+i+1)))))):=fun kn kr=>by
   unfold tS;rw[N4,aM,aF,N5,hg0];simp(decide:=true) only [aB,unS,a9,orS,ifS,d6,aD,c7,aJ,aX,fT,aK,j5,aG,plI,rgI,enI,rvI,d8,cN,rE,eA,
  aF,sG,aM,eO,eZ,e6,cJ,dQ,sH,sI,e8,sJ,cB,gL,dR,cO,nV,sK,sL,sM,nW,sN,sO,sP,sQ,sR,sU,sV,sW,sX,sY,sZ,s5,s6,s7,s8,s9,tA,tR,tT,gO,kT,iX,eP,tU,tV,tW,fX,fS,rD]
   rfl
  have h0:0≤((bC s (k+10*j+i+1)).fdiv 12).fmod 5∧((bC s (k+10*j+i+1)).fdiv 12).fmod 5 < 5:=aP _ (by decide);obtain⟨v,hv1,hv2⟩:=tN (n+1) ((bC s (k+10*j+i+1)).fdiv 4);cases c1:decide (0 < (bC s (k+10*j+i+1)).fmod 4) with
  |true =>
   refine Out.kn (st a f (.int v)) (some (.fz (.int i)),some (.fz (.str f)),some (.fz (.int (bC s (k+10*j+i+1))))) (hi.set (hf f hff) (.int hv2)) fun kn kr=>(hb kn kr).trans ?_;rw[c1,cJ,hv1,aF,e8,kO f _ (hi.lt H (by decide))];rfl
  |false =>
   cases c2:((bC s (k+10*j+i+1)).fmod 12==0) with
   |true =>
    refine Out.kn (st a f (.dict (mkd [(x0,.int (((bC s (k+10*j+i+1)).fdiv 12).fmod 5))]))) (some (.fz (.int i)),some (.fz (.str f)),some (.fz (.int (bC s (k+10*j+i+1))))) (hi.set (hf f hff) ((BT.nil (m:=0)).set hx0 (.int (i:=((bC s (k+10*j+i+1)).fdiv 12).fmod 5) (by unfold big;omega))).toTr) fun kn kr=>(hb kn kr).trans ?_;rw[c1,dQ,c2,cJ,kO f _ (hi.lt H (by decide))];rfl
   |false =>
    refine Out.kn a (some (.fz (.int i)),some (.fz (.str f)),some (.fz (.int (bC s (k+10*j+i+1))))) hi fun kn kr=>(hb kn kr).trans ?_;rw[c1,dQ,c2,dQ]) BT.nil
 obtain⟨r,o',h1,h2⟩ | ⟨_,hx,_⟩ | ⟨_,hv,_⟩:=L
 ·exact⟨r,o',h1,h2⟩
 ·exact hx.elim
 ·exact hv.elim
inductive TabR(N:List Str)(r:R V):Prop where
 |mk (l:LP) (B:BT N 2 l) (e:r=.ok (.own (.dict (mkd l)))):TabR N r
theorem tX(H:Wld N)(n:Nat)(s:List Int)(k:Int){fs:List Str}(hf:∀ x∈fs,x∈N):TabR N (rn (n+3) "_law_table" [.fz (Li s),.fz (.int k),.fz (NL N),.fz (.list (fs.map .str))]):=by
 have L:=iP (S:=fun (c:LP) (o:Option V×Option V×Option V×Option V×Option V)=>bZ (ζ (Li s)) (ζ (.int k)) (ζ (NL N)) (ζ (.list (fs.map .str))) (some (.own (.dict (mkd c)))) o.1 o.2.1 o.2.2.1 o.2.2.2.1 o.2.2.2.2) (b:=nG (n+2)) (t:=nH) (l:=[.int 0,.int 1,.int 2,.int 3]) (p:=[]) (a:=[]) (j:=(none,none,none,none,none)) (I:=fun _ r=>BT N 2 r) (E:=fun _=>False) (Q:=fun _=>False) (fun q d r c o hq hi=>by
  have hd:=A2 hq;obtain⟨j,hj,rfl⟩:∃ j:Int,(0≤j∧j < 4)∧d=.int j:=by
   simp only[List.mem_cons,List.not_mem_nil,or_false] at hd;rcases hd with rfl | rfl | rfl | rfl
   ·exact⟨0,by decide,rfl⟩
   ·exact⟨1,by decide,rfl⟩
   ·exact⟨2,by decide,rfl⟩
   ·exact⟨3,by decide,rfl⟩
  obtain⟨x,hx,_,hg⟩:=cU H (i:=9+j) (by exact Eo hj);obtain⟨r',o',hr,L2⟩:=Rz H n s k j hf c (o.2.2.1,o.2.2.2.1,o.2.2.2.2);have hb:∀ kn kr,(rb (ofP (aS nH (.int j) (bZ (ζ (Li s)) (ζ (.int k)) (ζ (NL N)) (ζ (.list (fs.map .str))) (some (.own (.dict (mkd c)))) o.1 o.2.1 o.2.2.1 o.2.2.2.1 o.2.2.2.2))) fun σ=>nG (n+2) σ kn kr)=if decide (0 < (bC s (k+10*j)).fmod 3)=true then rb (ofP (Mine.setItem (.dict (mkd c)) (.str x) (.dict (mkd r')))) (fun o1=>kn (bZ (ζ (Li s)) (ζ (.int k)) (ζ (NL N)) (ζ (.list (fs.map .str))) (some (.own o1)) (ζ (.int j)) (ζ (.dict (mkd r'))) o'.1 o'.2.1 o'.2.2)) else kn (bZ (ζ (Li s)) (ζ (.int k)) (ζ (NL N)) (ζ (.list (fs.map .str))) (some (.own (.dict (mkd c)))) (ζ (.int j)) o.2.1 o.2.2.1 o.2.2.2.1 o.2.2.2.2):=fun kn kr=>by
   rw[N1,aM,aF,N2,show enI (.ok (.fz (.list (fs.map .str))))=.ok (cD 0 (fs.map .str)) from rfl,aF];have:=L2 (fun σ=>rG (n+2) σ (fun σ=>stm BB (so "_law_table") (n+2) 23 (List.drop 1 (bM (List.drop 1 (aH BB (so "_law_table"))))) σ kn kr) kr) kr;unfold tS at this;rw[this,N6];simp(decide:=true) only [aB,unS,a9,orS,ifS,d6,aD,c7,aJ,aX,fT,aK,j5,aG,plI,rgI,enI,rvI,d8,cN,rE,eA,
  aF,sG,aM,eO,eZ,e6,cJ,dQ,sH,sI,e8,sJ,cB,gL,dR,cO,nV,sK,sL,sM,nW,sN,sO,sP,sQ,sR,sU,sV,sW,sX,sY,sZ,s5,s6,s7,s8,s9,tA,tR,tT,gO,kT,iX,eP,tU,tV,tW,fX,hg]
   rfl
  cases c1:decide (0 < (bC s (k+10*j)).fmod 3) with
  |true =>
   refine Out.kn (st c x (.dict (mkd r'))) (some (.fz (.int j)),some (.fz (.dict (mkd r'))),o'.1,o'.2.1,o'.2.2) (hi.set hx hr.toTr) fun kn kr=>(hb kn kr).trans ?_;rw[c1,cJ,kO x _ (hi.lt H (by decide))];rfl
  |false =>
   refine Out.kn c (some (.fz (.int j)),o.2.1,o.2.2.1,o.2.2.2.1,o.2.2.2.2) hi fun kn kr=>(hb kn kr).trans ?_;rw[c1,dQ]) BT.nil
 obtain⟨l,o',h1,h2⟩ | ⟨_,hx,_⟩ | ⟨_,hv,_⟩:=L
 ·refine⟨l,h1,?_⟩;rw[N0,show rgI (.ok (.fz (.int 4)))=.ok [.int 0,.int 1,.int 2,.int 3] from by kernel_rfl];exact(h2 _ _).trans (N3 ..)
 ·exact hx.elim
 ·exact hv.elim
end Mine
namespace Mine
open PySem
variable {N:List Str} {m:Nat}
theorem A3(ps:LP):jJ (mkd ps)=.ok (.own (.dict (mkd (sts ps [])))):=by
 show((ofO (keys? (mkd ps))).bind fun l=>own (.dict (cK l (mkd []))))=_;rw[mk_keys?,e6,eZ,zV];rfl
theorem A4(a:Str){r:R V}{v:V}{d:PyData}(hr:r=.ok v)(hv:v.clear=.fz d):fS [(.ok (.fz (.str a)),r)]=.ok (.own (.dict (mkd (sts [(a,d)] [])))):=by
 rw[hr,← kP hv];exact congrArg ofP (A3 [(a,dOf v)])
theorem A5(a b:Str){r1 r2:R V}{v1 v2:V}{d1 d2:PyData}(hr1:r1=.ok v1)(hv1:v1.clear=.fz d1)(hr2:r2=.ok v2)(hv2:v2.clear=.fz d2):fS [(.ok (.fz (.str a)),r1),(.ok (.fz (.str b)),r2)]=.ok (.own (.dict (mkd (sts [(a,d1),(b,d2)] [])))):=by
 rw[hr1,hr2,← kP hv1,← kP hv2];exact congrArg ofP (A3 [(a,dOf v1),(b,dOf v2)])
theorem tY(lo hi:Option Int):gW (NL N) lo hi=.ok (.own (.list ((slice N lo hi).map .str))):=by
 show P.ok (V.own (.list (slice (N.map PyData.str) lo hi)))=_;unfold slice;rw[List.length_map,List.map_take,List.map_drop]
theorem n9{α:Type}{l:List α}{lo hi:Option Int}{x:α}(h:x∈slice l lo hi):x∈l:=List.mem_of_mem_drop (List.mem_of_mem_take h)
theorem R0{a b c:PyData}{i:Int}(h:0≤i∧i < 3):∃ d,getItem (.list [a,b,c]) (.int i)=.ok (.fz d)∧(d=a∨d=b∨d=c):=by
 have:i=0∨i=1∨i=2:=by exact Ep h
 rcases this with rfl | rfl | rfl
 ·exact⟨a,rfl,.inl rfl⟩
 ·exact⟨b,rfl,.inr (.inl rfl)⟩
 ·exact⟨c,rfl,.inr (.inr rfl)⟩
theorem A6(l:LP)(x:Str)(d:PyData):dK (.dict (mkd l)) [.str x,d]=.ok (.fz ((lk l x).getD d)):=by
 show fz ((bP (mkd l) x).getD d)=_;rw[kL];rfl
theorem BT.get{l:LP}(B:BT N m l){x:Str}{d:PyData}(hd:Tr N m d):Tr N m ((lk l x).getD d):=by
 obtain⟨f,B⟩:=B;refine ocs (lk l x) (fun e=>?_) fun u e=>?_
 ·try rewrite[e]
  exact hd
 ·try rewrite[e]
  obtain⟨t,_,h⟩:=B.get' e;exact⟨t,h⟩
theorem R1(H:Wld N)(n:Nat)(s:List Int){l:LP}(B:BT N m l)(hl:∀ i x,i < 5→N[i]?=some x→(lk l x).isSome=true) :
  ∃ l' o,BT N m l'∧∀ kn kr,aT (kA (n+2)) kB [.int 0,.int 1,.int 2,.int 3,.int 4] (cT (ζ (Li s)) (ζ (NL N)) (some (.own (.dict (mkd l)))) none) kn kr=kn (cT (ζ (Li s)) (ζ (NL N)) (some (.own (.dict (mkd l')))) o):=by
 have L:=iP (S:=fun (c:LP) (o:Option V)=>cT (ζ (Li s)) (ζ (NL N)) (some (.own (.dict (mkd c)))) o) (b:=kA (n+2)) (t:=kB) (l:=[.int 0,.int 1,.int 2,.int 3,.int 4]) (p:=[]) (a:=l) (j:=none) (I:=fun p c=>BT N m c∧∀ i x,p.length≤i→i < 5→N[i]?=some x→(lk c x).isSome=true) (E:=fun _=>False) (Q:=fun _=>False) (fun q d r c o hq hi=>by
  have hg:([.int 0,.int 1,.int 2,.int 3,.int 4]:List PyData)[q.length]?=some d:=by
   rw[show([.int 0,.int 1,.int 2,.int 3,.int 4]:List PyData)=q++d::r from hq];simp
  have hlt:q.length < 5:=(List.getElem?_eq_some_iff.mp hg).1;have hd:d=.int q.length:=by
   generalize q.length=k at hg hlt;have:k=0∨k=1∨k=2∨k=3∨k=4:=by exact uS hlt
   rcases this with rfl | rfl | rfl | rfl | rfl<;>simpa using hg.symm
  subst hd;obtain⟨x,hx,hN,hgx⟩:=cU H (i:=(q.length:Int)) (by exact Er hlt);have hN:N[q.length]?=some x:=by simpa using hN
  obtain⟨dx,hdx⟩:=n0 (hi.2 q.length x (Nat.le_refl _) hlt hN);have hb:∀ kn kr,(rb (ofP (aS kB (.int q.length) (cT (ζ (Li s)) (ζ (NL N)) (some (.own (.dict (mkd c)))) o))) fun σ=>kA (n+2) σ kn kr)=if ((bC s (200+q.length)).fmod 9==0)=true then kn (cT (ζ (Li s)) (ζ (NL N)) (some (.own (.dict (mkd (dl c x))))) (ζ (.int q.length))) else kn (cT (ζ (Li s)) (ζ (NL N)) (some (.own (.dict (mkd c)))) (ζ (.int q.length))):=fun kn kr=>by
   rw[N8,aM,aF,N9,hgx];have e:j6 (.ok (.dict (mkd c))) (so "pop") [ofP (.ok (.fz (.str x)))] (fun o1=>kn (cT (ζ (Li s)) (ζ (NL N)) (some (.own o1)) (ζ (.int q.length))))=kn (cT (ζ (Li s)) (ζ (NL N)) (some (.own (.dict (mkd (dl c x))))) (ζ (.int q.length))):=by
    show rb (ofP (if (bP (mkd c) x).isSome then P.ok (PyData.dict (dC (mkd c) x)) else .no)) _=_;rw[kL,hdx,Pw];rfl
   rw[e];simp(decide:=true) only [aB,unS,a9,orS,ifS,d6,aD,c7,aJ,aX,fT,aK,j5,aG,plI,rgI,enI,rvI,d8,cN,rE,eA,
  aF,sG,aM,eO,eZ,e6,cJ,dQ,sH,sI,e8,sJ,cB,gL,dR,cO,nV,sK,sL,sM,nW,sN,sO,sP,sQ,sR,sU,sV,sW,sX,sY,sZ,s5,s6,s7,s8,s9,tA,tR,tT,gO,kT,iX,eP,tU,tV,tW,fX]
  cases c1:((bC s (200+q.length)).fmod 9==0) with
  |true =>
   obtain⟨⟨f,Bf⟩,h2⟩:=hi;refine Out.kn (dl c x) (ζ (.int q.length)) ⟨⟨_,Bf.del x⟩,fun i y h3 h4 h5=>?_⟩ fun kn kr=>(hb kn kr).trans (by rw[c1,cJ]);rw[List.length_append,List.length_singleton] at h3;rw[(zW x Bf.nd).2.2,if_neg]
   ·exact h2 i y (by exact uT h3) h4 h5
   ·intro e;subst e;have h6:=List.getElem?_eq_some_iff.mp h5;have h7:=List.getElem?_eq_some_iff.mp hN;have:=(List.getElem_inj (h₀:=h6.1) (h₁:=h7.1) H.nd).mp (h6.2.trans h7.2.symm);lia
  |false =>
   refine Out.kn c (ζ (.int q.length)) ⟨hi.1,fun i y h3 h4 h5=>?_⟩ fun kn kr=>(hb kn kr).trans (by rw[c1,dQ]);rw[List.length_append,List.length_singleton] at h3;exact hi.2 i y (by exact uT h3) h4 h5) ⟨B,fun i x _ h1 h2=>hl i x h1 h2⟩
 obtain⟨l',o',h1,h2⟩ | ⟨_,hx,_⟩ | ⟨_,hv,_⟩:=L
 ·exact⟨l',o',h1.1,h2⟩
 ·exact hx.elim
 ·exact hv.elim
theorem R2(H:Wld N)(n:Nat)(s:List Int):Gives (rn (n+4) "_law_house" [.fz (Li s),.fz (NL N)]) fun d=>Tr N 5 d:=by
 obtain⟨x0,m0,i0,g0⟩:=cU H (i:=0) (by decide);obtain⟨x1,m1,i1,g1⟩:=cU H (i:=1) (by decide);obtain⟨x2,m2,i2,g2⟩:=cU H (i:=2) (by decide);obtain⟨x3,m3,i3,g3⟩:=cU H (i:=3) (by decide);obtain⟨x4,m4,i4,g4⟩:=cU H (i:=4) (by decide);obtain⟨x5,m5,_,g5⟩:=cU H (i:=5) (by decide);obtain⟨x6,m6,_,g6⟩:=cU H (i:=6) (by decide);obtain⟨v1,a1,b1⟩:=tN (n+2) (bC s 1);obtain⟨v2,a2,b2⟩:=tN (n+2) (bC s 2);obtain⟨l2,t2,e2⟩:=tX H n s 20 (fs:=slice N (some 5) (some 7)) fun x hx=>n9 hx;obtain⟨l3,t3,e3⟩:=tX H n s 70 (fs:=slice N (some 7) (some 9)) fun x hx=>n9 hx;obtain⟨l4,t4,e4⟩:=tX H n s 120 (fs:=slice N (some 5) (some 9)) fun x hx=>n9 hx;have q1:aG (rn (n+3) "_law_number") [rn (n+3) "_law_mixed" [.fz (Li s),.fz (.int 1)]]=.ok (.fz (.int v1)):=by rw[fX (n+1)];exact a1
 have q2:aG (rn (n+3) "_law_number") [rn (n+3) "_law_mixed" [.fz (Li s),.fz (.int 2)]]=.ok (.fz (.int v2)):=by rw[fX (n+1)];exact a2
 have tt:∀ (k:Int) lo hi {l:LP},rn (n+3) "_law_table" [.fz (Li s),.fz (.int k),.fz (NL N),.fz (.list ((slice N (some lo) (some hi)).map .str))]=.ok (.own (.dict (mkd l)))→aG (rn (n+3) "_law_table") [.ok (.fz (Li s)),.ok (.fz (.int k)),.ok (.fz (NL N)),aX (.ok (NL N)) (some (.ok (.fz (.int lo)))) (some (.ok (.fz (.int hi))))]=.ok (.own (.dict (mkd l))):=fun k lo hi l h=>by
  rw[show aX (.ok (NL N)) (some (.ok (.fz (.int lo)))) (some (.ok (.fz (.int hi))))=.ok (.own (.list ((slice N (some lo) (some hi)).map .str))) from congrArg ofP (tY _ _)];exact h
 have sl:∀ (l:LP) (x:Str) (r:R V) (v:V) (d:PyData) (k:PyData→R V),r=.ok v→v.clear=.fz d→l.length < aI→cN r (.ok (.dict (mkd l))) (.ok (.fz (.str x))) k=k (.dict (mkd (st l x d))):=fun l x r v d k h1 h2 h3=>by
  rw[h1];show rb (ofP (Mine.setItem (.dict (mkd l)) (.str x) (dOf v))) k=_;rw[kP h2,kO x d h3];rfl
 have B0:BT N 4 (sts [(x0,.int v1)] []):=BT.nil.set m0 (.int b1);have T1:Tr N 4 (.dict (mkd (sts [(x5,.int v2),(x6,.dict (mkd (sts [(x0,.int 3)] [])))] []))) :=
  Tr.mono (BT.toTr (m:=1) ((BT.nil.set m5 (.int b2)).set m6 (BT.toTr (m:=0) (BT.nil.set m0 (.int (by decide)))))) (by decide)
 have B1:=B0.set m1 T1;have B2:=B1.set m2 (t2.toTr.mono (by decide));have B3:=B2.set m3 (t3.toTr.mono (by decide));have T4:Tr N 4 (.dict (mkd (sts [(x2,.dict (mkd l4)),(x0,.int 1)] []))):=BT.toTr (m:=3) ((BT.nil.set m2 t4.toTr).set m0 (.int (by decide)));have B4:=B3.set m4 T4;obtain⟨l',o,hB,hL⟩:=R1 H (n+1) s B4 fun i x hi hx=>by
  have h1:∀ {y z:Str} {d:PyData} {l:LP},(lk l y).isSome=true→(lk (st l z d) y).isSome=true:=fun {y z d l} h=>by
   rw[nU];split
   ·rfl
   ·exact h
  have h2:∀ {y:Str} {d:PyData} {l:LP},(lk (st l y d) y).isSome=true:=fun {y d l}=>by rw[nU,if_pos rfl];rfl
  have:i=0∨i=1∨i=2∨i=3∨i=4:=by exact uS hi
  rcases this with rfl | rfl | rfl | rfl | rfl
  ·rw[show N[0]?=some x0 from i0] at hx;obtain rfl:=si hx;exact h1 (h1 (h1 (h1 h2)))
  ·rw[show N[1]?=some x1 from i1] at hx;obtain rfl:=si hx;exact h1 (h1 (h1 h2))
  ·rw[show N[2]?=some x2 from i2] at hx;obtain rfl:=si hx;exact h1 (h1 h2)
  ·rw[show N[3]?=some x3 from i3] at hx;obtain rfl:=si hx;exact h1 h2
  ·rw[show N[4]?=some x4 from i4] at hx;obtain rfl:=si hx;exact h2
 obtain⟨d,hd1,hd2⟩:=R0 (a:=.dict (mkd l')) (b:=(lk l' x2).getD (.dict [])) (c:=(lk l' x4).getD (.int 5)) (aP ((dH s 1).fmod 5) (n:=3) (by decide));refine⟨.fz d,d,?_,rfl,?_⟩
 ·rw[N7,g0,g1,g2,g3,g4,g5,g6];simp only[aM];rw[A4 x0 q1 rfl,aF,A4 x0 (r:=.ok (.fz (.int 3))) rfl rfl,A5 x5 x6 q2 rfl rfl rfl,nW,aM,sl _ _ _ _ _ _ rfl rfl (B0.lt H (by decide)),
   sl _ _ _ _ _ _ (tt 20 5 7 e2) rfl (B1.lt H (by decide)),sl _ _ _ _ _ _ (tt 70 7 9 e3) rfl (B2.lt H (by decide)),A5 x2 x0 (tt 120 5 9 e4) rfl rfl rfl,sl _ _ _ _ _ _ rfl rfl (B3.lt H (by decide)),
   show rgI (.ok (.fz (.int 5)))=.ok [.int 0,.int 1,.int 2,.int 3,.int 4] from by kernel_rfl,aF]
  refine(hL _ _).trans ((Oa ..).trans ?_);rw[g2,g4,aM,aM,tM (n+2) s (by decide)];have h1:bH (so "get") (.ok (.fz (.dict (mkd l')))) [.ok (.fz (.str x2)),.ok (.own (.dict []))]=.ok (.fz ((lk l' x2).getD (.dict []))):=congrArg ofP (A6 l' x2 (.dict []));have h2:bH (so "get") (.ok (.fz (.dict (mkd l')))) [.ok (.fz (.str x4)),.ok (.fz (.int 5))]=.ok (.fz ((lk l' x4).getD (.int 5))):=congrArg ofP (A6 l' x4 (.int 5));rw[h1,h2];refine Eq.trans (b:=rb (ofP (getItem (.list [.dict (mkd l'),(lk l' x2).getD (.dict []),(lk l' x4).getD (.int 5)]) (.int (((dH s 1).fmod 5).fmod 3)))) R.ok) (by kernel_rfl) ?_;rw[hd1];rfl
 ·rcases hd2 with rfl | rfl | rfl
  ·exact hB.toTr
  ·exact Tr.mono (hB.get ((BT.nil (m:=3)).toTr)) (by decide)
  ·exact Tr.mono (hB.get (.int (by decide))) (by decide)
end Mine
namespace Mine
open PySem
variable {N:List Str} {m:Nat}
theorem A7(H:Wld N){l:LP}{f:Str→Option TT}(B:Bld N m l f):aK fG (ofP (fH (.dict (mkd l))))=.ok (.own (.list ((bK (ks l)).map .str))):=by
 rw[list_dict];show ofP (f7 ((ks l).map .str))=_;rw[Am (by rw[fA];exact B.lt H (by decide))];rfl
theorem R3{xs:List PyData}(h:xs≠[])(a:Int):∃ x,x∈xs∧rb (ofP (aC .Mod (.int a) (.int xs.length))) (fun i=>ofP (getItem (.list xs) (dOf i)))=.ok (.fz x):=by
 have hl:0 < xs.length:=List.length_pos_iff.mpr h;have hr:=aP a (n:=(xs.length:Int)) (by exact oS hl);have hk:(a.fmod xs.length).toNat < xs.length:=by exact Es hr
 refine⟨xs[(a.fmod xs.length).toNat],List.getElem_mem hk,?_⟩;rw[eP _ (by exact uU hl),aM,aF,e8,iV hr.1 (List.getElem?_eq_getElem hk)];rfl
theorem A8{S:List Str}(h:S≠[])(a:Int):∃ x,x∈S∧rb (ofP (aC .Mod (.int a) (.int (S.map PyData.str).length))) (fun i=>ofP (getItem (.list (S.map .str)) (dOf i)))=.ok (.fz (.str x)):=by
 obtain⟨d,hd,e⟩:=R3 (xs:=S.map PyData.str) (by simpa using h) a;obtain⟨x,hx,rfl⟩:=List.mem_map.mp hd;exact⟨x,hx,e⟩
inductive IsV(N:List Str)(h g:Nat)(r:R V):Prop where
 |mk (w:WW) (e:r=.ok (.fz (enc w))) (o:okW N w) (i:w.isRows=false) (a:w.hgt≤h) (b:w.grow≤g):IsV N h g r
theorem IsV.whole{h g:Nat}:IsV N h (g+1) (.ok (.fz (.tuple [.str (so "whole")]))):=⟨.whole,rfl,trivial,rfl,Nat.zero_le _,Nat.succ_le_succ (Nat.zero_le _)⟩
theorem IsV.ite{h g:Nat}{c a b:R V}{t:Bool}(hc:c=.ok (.fz (.bool t)))(ha:t=true→IsV N h g a)(hb:t=false→IsV N h g b):IsV N h g (ifS c a b):=by
 rw[hc];cases t with
 |true=>exact ha rfl
 |false=>exact hb rfl
theorem tZ(a b c:PyData):aN [.ok (.fz a),.ok (.fz b),.ok (.fz c)]=.ok (.fz (.tuple [a,b,c])):=rfl
inductive SeenA(N:List Str)(m:Nat)(o:Option TT)(r:R V):Prop where
 |mk (v:V) (d':PyData) (e:r=.ok v) (c:v.clear=.fz d') (h:(∃ s,o=some s∧Sem N m d' s)∨o=none∧d'=.none):SeenA N m o r
theorem R4(H:Wld N){w:WW}(ho:okW N w)(hr:w.isRows=false){n:Nat}{d:PyData}{t:TT}(hn:w.hgt+m+3≤n)(hd:Sem N m d t):SeenA N m (aL w t) (rn n "_law_seen" [.fz (enc w),.fz d]):=by
 have h:=(At H ho).1 hr hn hd;cases hs:aL w t with
 |none=>rw[hs] at h;exact⟨_,_,h,rfl,.inr ⟨rfl,rfl⟩⟩
 |some s=>rw[hs] at h;obtain⟨v,d',a,b,c⟩:=h;exact⟨v,d',a,b,.inl ⟨s,rfl,c⟩⟩
theorem R5{l:List Str}{a b:Int}(h0:0≤a)(h1:a≤b)(h2:b≤l.length):(slice l (some a) (some b)).length=b.toNat - a.toNat:=by
 show((l.drop (clipAt l.length a)).take (clipAt l.length b - clipAt l.length a)).length=_;rw[iW h0 (Int.le_trans h1 h2),iW (Int.le_trans h0 h1) h2,List.length_take,List.length_drop,Nat.min_eq_left];have:=Int.toNat_le_toNat h2;rw[Int.toNat_natCast] at this;exact Nat.sub_le_sub_right this _
theorem R6{l:List Str}{lo hi:Option Int}(h:l.Nodup):(slice l lo hi).Nodup:=((List.take_sublist _ _).trans (List.drop_sublist _ _)).nodup h
theorem Wz(lo hi:Int):aK cL (aX (.ok (NL N)) (some (.ok (.fz (.int lo)))) (some (.ok (.fz (.int hi)))))=.ok (.fz (.tuple ((slice N (some lo) (some hi)).map .str))):=by
 rw[show aX (.ok (NL N)) (some (.ok (.fz (.int lo)))) (some (.ok (.fz (.int hi))))=.ok (.own (.list ((slice N (some lo) (some hi)).map .str))) from congrArg ofP (tY _ _)];rfl
theorem A9(H:Wld N){i j:Nat}{a b:Str}(ha:N[i]?=some a)(hb:N[j]?=some b)(hij:i≠j){lo hi:Int}(h0:0≤lo)(h1:lo < hi)(h2:hi≤lo+6)(h3:hi≤14):okW N (.join a b (slice N (some lo) (some hi))):=by
 have hl:=R5 (l:=N) h0 (Int.le_of_lt h1) (by rw[H.len];exact h3);obtain⟨p1,p2⟩:=List.getElem?_eq_some_iff.mp ha;obtain⟨q1,q2⟩:=List.getElem?_eq_some_iff.mp hb;refine⟨⟨p2▸List.getElem_mem p1,q2▸List.getElem_mem q1,fun e=>hij ?_⟩,⟨by exact Et h0 h1 hl,by exact Eu h2 hl⟩,R6 H.nd,fun f hf=>n9 hf⟩;exact(List.getElem_inj (h₀:=p1) (h₁:=q1) H.nd).mp (p2.trans (e.trans q2.symm))
theorem Ba(a b:WW):aN [.ok (.fz (.str (so "then"))),.ok (.fz (enc a)),.ok (.fz (enc b))]=.ok (.fz (enc (.andThen a b))):=rfl
theorem R7(a:WW):aN [.ok (.fz (.str (so "each"))),.ok (.fz (enc a))]=.ok (.fz (enc (.each a))):=rfl
theorem Bb(a b:Str)(fs:List Str):aN [.ok (.fz (.str (so "join"))),.ok (.fz (.str a)),.ok (.fz (.str b)),.ok (.fz (.tuple (fs.map .str)))]=.ok (.fz (enc (.join a b fs))):=rfl
theorem R8(a:Str):aN [.ok (.fz (.str (so "pick"))),.ok (.fz (.str a))]=.ok (.fz (enc (.pick a))):=rfl
theorem R9(a b:Str):aN [.ok (.fz (.str (so "call"))),.ok (.fz (.str a)),.ok (.fz (.str b))]=.ok (.fz (enc (.call a b))):=rfl
theorem Sa(a:Str)(i:Int):aN [.ok (.fz (.str (so "sift"))),.ok (.fz (.str a)),.ok (.fz (.int i))]=.ok (.fz (enc (.sift a i))):=rfl
theorem Bc(H:Wld N)(n:Nat)(c:Int){l:LP}{f:Str→Option TT}(B:Bld N m l f):IsV N 0 1 (ifS (rn (n+1) "_law_is_table" [.fz (.dict (mkd l))]) (rb (aN [(.ok (.fz (.str (so "sift")))),(aJ (.ok (NL N)) (aB .Add (.ok (.fz (.int 5))) (aB .Mod (ofP (aC .FloorDiv (.int c) (.int 4))) (.ok (.fz (.int 4)))))),(aB .Sub (aB .Mod (ofP (aC .FloorDiv (.int c) (.int 16))) (.ok (.fz (.int 7)))) (.ok (.fz (.int 3))))]) R.ok) (R.ok (.fz (.tuple [(.str (so "whole"))])))):=by
 refine IsV.ite (tJ n B.toSem) (fun _=>?_) fun _=>IsV.whole;have hr:=aP (c.fdiv 4) (n:=4) (by decide);have h7:=aP (c.fdiv 16) (n:=7) (by decide);obtain⟨x,hx,_,hg⟩:=cU H (i:=5+(c.fdiv 4).fmod 4) (by exact uV hr);rw[show aJ (.ok (NL N)) (aB .Add (.ok (.fz (.int 5))) (aB .Mod (ofP (aC .FloorDiv (.int c) (.int 4))) (.ok (.fz (.int 4)))))=.ok (.fz (.str x)) from (by kernel_rfl:_=ofP (getItem (NL N) (.int (5+(c.fdiv 4).fmod 4)))).trans (by rw[hg];rfl),
  show aB .Sub (aB .Mod (ofP (aC .FloorDiv (.int c) (.int 16))) (.ok (.fz (.int 7)))) (.ok (.fz (.int 3)))=.ok (.fz (.int ((c.fdiv 16).fmod 7 - 3))) from by kernel_rfl]
 exact⟨.sift x ((c.fdiv 16).fmod 7 - 3),rfl,⟨hx,by omega⟩,rfl,Nat.le_refl _,Nat.le_refl _⟩
theorem Bd(H:Wld N)(n:Nat)(c:Int){d:PyData}{t:TT}(hd:Sem N m d t):IsV N 0 1 (rn (n+2) "_law_small" [.fz (.int c),.fz d,.fz (NL N)]):=by
 rw[On];refine hd.by (fun m i _=>IsV.whole) fun m l f B=>?_
 refine IsV.ite (t:=c.fmod 4==0) (by kernel_rfl) (fun _=>IsV.whole) fun _=>?_;rw[A7 H B,aF];have hmem:∀ x∈bK (ks l),x∈ks l:=fun x hx=>eC.mp hx;generalize bK (ks l)=S at hmem;have hc:a9 (aD (ofP (rdv (V.clear (.own (.list (S.map .str)))))) .NotEq (.ok (.own (.list [])))) (aD (ofP (aC .Mod (.int c) (.int 4))) .Lt (.ok (.fz (.int 3))))=.ok (.fz (.bool (!S.isEmpty&&decide (c.fmod 4 < 3)))):=by
  rw[show aD (ofP (rdv (V.clear (.own (.list (S.map .str)))))) .NotEq (.ok (.own (.list [])))=.ok (.fz (.bool (!S.isEmpty))) from (congrArg (fun p=>aV (ofP (cC p))) (nY S)).trans rfl];cases S.isEmpty<;>kernel_rfl
 refine IsV.ite hc (fun ht=>?_) fun _=>Bc H n c B;have hS:S≠[]:=fun e=>by rw[e] at ht;simp at ht
 obtain⟨x,hx,hix⟩:=A8 hS (c.fdiv 4);have hix':aJ (c8 (V.clear (V.clear (.own (.list (S.map .str)))))) (aB .Mod (ofP (aC .FloorDiv (.int c) (.int 4))) (aK aU (ofP (rdv (V.clear (V.clear (.own (.list (S.map .str)))))))) )=.ok (.fz (.str x)):=(by kernel_rfl:_=rb (ofP (aC .Mod (.int (c.fdiv 4)) (.int (S.map PyData.str).length))) (fun i=>ofP (getItem (.list (S.map .str)) (dOf i)))).trans hix;rw[hix'];refine IsV.ite (t:=c.fmod 4==1) (by kernel_rfl) (fun _=>⟨.pick x,rfl,B.sub x (hmem x hx),rfl,Nat.le_refl _,Nat.le_refl _⟩) fun _=>?_;have hr:=aP (c.fdiv 16) (n:=14) (by decide);obtain⟨y,hy,_,hg⟩:=cU H (i:=(c.fdiv 16).fmod 14) hr;rw[show aJ (.ok (NL N)) (aB .Mod (ofP (aC .FloorDiv (.int c) (.int 16))) (.ok (.fz (.int 14))))=.ok (.fz (.str y)) from (by kernel_rfl:_=ofP (getItem (NL N) (.int ((c.fdiv 16).fmod 14)))).trans (by rw[hg];rfl),aF];refine IsV.ite (t:=!(lk l y).isSome) ((congrArg (fun p=>aV (ofP (cC p))) (kN l y)).trans rfl) (fun hn=>?_) fun _=>Bc H n c B;refine⟨.call x y,rfl,⟨B.sub x (hmem x hx),hy,fun e=>?_⟩,rfl,Nat.le_refl _,Nat.le_refl _⟩;subst e;rw[kM.mpr (hmem x hx)] at hn;exact bft hn
end Mine
namespace Mine
open PySem
variable {N:List Str} {m:Nat}
noncomputable def dI:List (Str×Str×WW)→WW
 | []=>.bnil
 |x::r=>.bcons x.1 x.2.1 x.2.2 (dI r)
noncomputable def fC(x:Str×Str×WW):PyData:=.tuple [.str x.1,.str x.2.1,enc x.2.2]
theorem t0:∀ L:List (Str×Str×WW),(dI L).isRows=true
 | []=>rfl
 |_::_=>rfl
theorem Be:∀ L:List (Str×Str×WW),a8 (dI L)=L.map fC
 | []=>rfl
 |x::r=>by
  show .tuple [.str x.1,.str x.2.1,enc x.2.2]::a8 (dI r)=_;rw[Be r];rfl
theorem iY:∀ L:List (Str×Str×WW),(dI L).names=L.map (·.1)∧(dI L).parts=L.map (·.2.1)
 | []=>⟨rfl,rfl⟩
 |x::r=>⟨congrArg (x.1::·) (iY r).1,congrArg (x.2.1::·) (iY r).2⟩
theorem Sb{h g:Nat}:∀ {L:List (Str×Str×WW)},(∀ x∈L,x.1∈N∧x.2.1∈N∧okW N x.2.2∧x.2.2.isRows=false∧x.2.2.hgt≤h∧x.2.2.grow≤g)→(L.map (·.1)).Nodup→(L.map (·.2.1)).Nodup→okW N (dI L)∧(dI L).hgt≤h∧(dI L).grow≤g*L.length:=by
 intro v0
 induction v0 with
 |nil =>
  intro _ _ _;exact⟨trivial,Nat.zero_le _,Nat.zero_le _⟩
 |cons x r ih =>
  intro hx h1 h2;obtain⟨a1,a2⟩:=List.nodup_cons.mp h1;obtain⟨b1,b2⟩:=List.nodup_cons.mp h2;obtain⟨i1,i2,i3⟩:=ih (fun y hy=>hx y (List.mem_cons_of_mem _ hy)) a2 b2;obtain⟨c1,c2,c3,c4,c5,c6⟩:=hx x (by simp);refine⟨⟨⟨c1,c2⟩,⟨c3,c4⟩,⟨i1,t0 r⟩,?_,?_⟩,Nat.max_le.mpr ⟨c5,i2⟩,?_⟩
  ·rw[(iY r).1];exact a1
  ·rw[(iY r).2];exact b1
  ·show x.2.2.grow+(dI r).grow≤g*(r.length+1);rw[Nat.mul_succ,Nat.add_comm];exact Nat.add_le_add i3 c6
theorem t6:∀ {k:Nat} {i:Int} {q r:List PyData} {d:PyData},bX i k=q++d::r→d=.int (i+q.length)∧q.length < k
 |0,i,q,r,d,h=>by cases q<;>cases h
 |k+1,i,[],r,d,h=>by
  have h:PyData.int i::bX (i+1) k=d::r:=h;cases h;exact⟨by simp,by simp⟩
 |k+1,i,x::q,r,d,h=>by
  have h:PyData.int i::bX (i+1) k=x::(q++d::r):=h;obtain⟨h1,h2⟩:=t6 (List.cons.inj h).2;refine⟨?_,by simpa using h2⟩;rw[h1,List.length_cons];congr 1;exact Ev
theorem Bg:∀ (k:Nat) (i:Int),(bX i k).length=k:=by
 intro v0
 induction v0 with
 |zero =>
  intro _;exact rfl
 |succ k ih =>
  intro i;exact congrArg (·+1) (ih (i+1))
theorem Bh{xs:List Str}{a:Int}{n:Int}(hn:n=xs.length)(h:0 < n):∃ x,x∈xs∧xs[(a.fmod n).toNat]?=some x∧getItem (.list (xs.map .str)) (.int (a.fmod n))=.ok (.fz (.str x)):=by
 have hr:=aP a h;have hk:(a.fmod n).toNat < xs.length:=by exact Ew hn hr
 refine⟨xs[(a.fmod n).toNat],List.getElem_mem hk,List.getElem?_eq_getElem hk,iV hr.1 ?_⟩;rw[List.getElem?_map,List.getElem?_eq_getElem hk];rfl
theorem oA{a n:Int}{i j:Nat}(hn:0 < n)(hj:(j:Int) < n)(hij:i < j):(a+i).fmod n≠(a+j).fmod n:=by
 rw[Int.fmod_eq_emod_of_nonneg _ (by exact oR hn),Int.fmod_eq_emod_of_nonneg _ (by exact oR hn)];intro e;have:=Int.emod_emod_of_dvd (a+j - (a+i)) (Int.dvd_refl n);have h1:(a+j - (a+i)) % n=0:=by rw[Int.sub_emod,e,Int.sub_self,Int.zero_emod]
 have h2:a+j - (a+i)=(j:Int) - i:=by exact Ex
 rw[h2,Int.emod_eq_of_lt (by exact Ey hij) (by exact Ez hj)] at h1;lia
theorem t7{xs ys:List Str}{n a:Int}(hx:xs.Nodup)(hn:n=xs.length)(hn0:0 < n)(hl:(ys.length:Int)≤n)(h:∀ (i:Nat) y,ys[i]?=some y→xs[((a+i).fmod n).toNat]?=some y):ys.Nodup:=by
 refine List.pairwise_iff_getElem.mpr fun i j hi hj hij e=>?_;have h1:=h i _ (List.getElem?_eq_getElem hi);have h2:=h j _ (List.getElem?_eq_getElem hj);rw[← e] at h2;obtain⟨p1,p2⟩:=List.getElem?_eq_some_iff.mp h1;obtain⟨q1,q2⟩:=List.getElem?_eq_some_iff.mp h2;have e2:=(List.getElem_inj (h₀:=p1) (h₁:=q1) hx).mp (p2.trans q2.symm);have r1:=aP (a+i) hn0;have r2:=aP (a+j) hn0;exact oA (a:=a) hn0 (by exact E0 hl hj) hij (by exact E1 e2 r1 r2)
theorem Sc(H:Wld N)(n:Nat)(c:Int){l:LP}{f:Str→Option TT}(B:Bld N m l f)(hS:bK (ks l)≠[]):IsV N 1 6 (rn (n+3) "_law_wide" [.fz (.int c),.fz (.dict (mkd l)),.fz (.list ((bK (ks l)).map .str)),.fz (NL N)]):=by
 have hnd:=Al B.nd;have hmem:∀ x∈bK (ks l),x∈ks l:=fun x hx=>eC.mp hx;have hlen:(bK (ks l)).length≤14:=by rw[Qw B.nd,fA];have:=B.len;rw[H.len] at this;exact this
 generalize bK (ks l)=S at hS hnd hmem hlen;have hpos:0 < S.length:=List.length_pos_iff.mpr hS;have hr6:=aP (c.fdiv 16) (n:=6) (by decide);rw[Oo];obtain⟨K,hK1,hK2,hK3,hK⟩:∃ K:Nat,1≤K∧K≤6∧K≤S.length∧rgI (j5 [ofP (aU (.list (S.map .str))),aB .Add (.ok (.fz (.int 1))) (aB .Mod (ofP (aC .FloorDiv (.int c) (.int 16))) (.ok (.fz (.int 6))))])=.ok (bX 0 K):=by
  refine⟨(if 1+(c.fdiv 16).fmod 6 < (S.length:Int) then 1+(c.fdiv 16).fmod 6 else (S.length:Int)).toNat,?_,?_,?_,?_⟩
  ·split<;>lia
  ·split<;>lia
  ·split<;>lia
  ·refine Eq.trans (b:=ofP (lG (.int (if 1+(c.fdiv 16).fmod 6 < ((S.map PyData.str).length:Int) then 1+(c.fdiv 16).fmod 6 else ((S.map PyData.str).length:Int))))) (by kernel_rfl) ?_;rw[List.length_map];show ofP (if _ then _ else _)=_;rw[if_pos]
   ·rfl
   ·split<;>lia
 rw[hK,aF];have L:=iP (S:=fun (a:List (Str×Str×WW)) (o:Option V×Option V)=>gK (ζ (.int c)) (ζ (.dict (mkd l))) (ζ (.list (S.map .str))) (ζ (NL N)) (some (.own (.list (a.map fC)))) o.1 o.2) (b:=rK (n+2)) (t:=rL) (l:=bX 0 K) (p:=[]) (a:=[]) (j:=(none,none))
  (I:=fun p a=>a.length=p.length∧(∀ x∈a,x.1∈N∧x.2.1∈N∧okW N x.2.2∧x.2.2.isRows=false∧x.2.2.hgt≤0∧x.2.2.grow≤1)∧(∀ (i:Nat) y,(a.map (·.1))[i]?=some y→N[((c.fdiv 64+i).fmod 14).toNat]?=some y)∧∀ (i:Nat) y,(a.map (·.2.1))[i]?=some y→S[((c+i).fmod S.length).toNat]?=some y) (E:=fun _=>False) (Q:=fun _=>False) (fun q d r a o hq hi=>by
   obtain⟨hd,hqk⟩:=t6 (show bX 0 K=q++d::r from hq);rw[Int.zero_add] at hd;subst hd;obtain⟨h1,h2,h3,h4⟩:=hi;obtain⟨x,hx,ix,gx⟩:=Bh (xs:=S) (a:=c+q.length) (n:=S.length) rfl (by exact oS hpos);obtain⟨y,hy,iy,gy⟩:=Bh (xs:=N) (a:=c.fdiv 64+q.length) (n:=14) (by rw[H.len];rfl) (by decide);obtain⟨dx,tx,q1,q2,q3⟩:=B.key (hmem x hx);obtain⟨w,e,ow,rw',hw,gw⟩:=Bd H n (c.fdiv 7+5*q.length) q3;refine Out.kn (a++[(y,x,w)]) (some (.fz (.int q.length)),some (.fz (.str x))) ⟨by simp[h1],fun z hz=>?_,fun i z hz=>?_,fun i z hz=>?_⟩ fun kn kr=>?_
   ·rcases List.mem_append.mp hz with hz | hz
    ·exact h2 z hz
    ·rw[List.mem_singleton.mp hz];exact⟨hy,B.sub x (hmem x hx),ow,rw',hw,gw⟩
   ·rw[List.map_append,List.getElem?_append] at hz
    split at hz
    ·exact h3 i z hz
    ·rename_i hlt;rw[List.length_map,h1] at hlt hz;have hi:i - q.length=0:=by
      rcases Nat.eq_zero_or_pos (i - q.length) with h | h
      ·exact h
      ·rw[List.getElem?_eq_none (by simp;exact uW h)] at hz;exact ns hz
     have:i=q.length:=by exact uX hlt hi
     subst this;rw[hi] at hz;obtain rfl:=si hz;exact iy
   ·rw[List.map_append,List.getElem?_append] at hz
    split at hz
    ·exact h4 i z hz
    ·rename_i hlt;rw[List.length_map,h1] at hlt hz;have hi:i - q.length=0:=by
      rcases Nat.eq_zero_or_pos (i - q.length) with h | h
      ·exact h
      ·rw[List.getElem?_eq_none (by simp;exact uW h)] at hz;exact ns hz
     have:i=q.length:=by exact uX hlt hi
     subst this;rw[hi] at hz;obtain rfl:=si hz;exact ix
   ·rw[Op,aM,aF,Oq];have z1:aJ (.ok (.list (S.map .str))) (aB .Mod (ofP (aC .Add (.int c) (.int q.length))) (ofP (aU (.list (S.map .str)))))=.ok (.fz (.str x)):=by
     refine Eq.trans (b:=rb (ofP (aC .Mod (.int (c+q.length)) (.int (S.map PyData.str).length))) (fun i=>ofP (getItem (.list (S.map .str)) (dOf i)))) (by kernel_rfl) ?_;rw[List.length_map,eP _ (by exact uU hpos),aM,aF,e8,gx];rfl
    have z2:aJ (.ok (NL N)) (aB .Mod (aB .Add (ofP (aC .FloorDiv (.int c) (.int 64))) (.ok (.fz (.int q.length)))) (.ok (.fz (.int 14))))=.ok (.fz (.str y)):=by
     refine Eq.trans (b:=ofP (getItem (NL N) (.int ((c.fdiv 64+q.length).fmod 14)))) (by kernel_rfl) ?_;rw[show getItem (NL N) (.int ((c.fdiv 64+q.length).fmod 14))=_ from gy];rfl
    have z3:aG (rn (n+2) "_law_small") [(aB .Add (ofP (aC .FloorDiv (.int c) (.int 7))) (ofP (aC .Mult (.int 5) (.int q.length)))),(aJ (.ok (.dict (mkd l))) (.ok (.fz (.str x)))),(.ok (.fz (NL N)))]=.ok (.fz (enc w)):=by
     rw[show aJ (.ok (.dict (mkd l))) (.ok (.fz (.str x)))=.ok (.fz dx) from congrArg ofP (dS q1)];exact(by kernel_rfl:_=rn (n+2) "_law_small" [.fz (.int (c.fdiv 7+5*q.length)),.fz dx,.fz (NL N)]).trans e
    rw[z1,aF,cB,cO,aM,z2,z3,tZ];show rb (ofP (if (a.map fC).length < aI then P.ok (PyData.list (a.map fC++[fC (y,x,w)])) else .no)) _=_;rw[if_pos (by rw[List.length_map,h1];have:aI=16777216:=rfl;exact E2 hK2 hqk this),show a.map fC++[fC (y,x,w)]=(a++[(y,x,w)]).map fC from by simp];rfl) ⟨rfl,fun x hx=>(by cases hx),fun i y h=>(by cases i<;>cases h),fun i y h=>(by cases i<;>cases h)⟩
 obtain⟨a,o,⟨h1,h2,h3,h4⟩,e⟩ | ⟨_,hx,_⟩ | ⟨_,hv,_⟩:=L
 ·rw[List.nil_append,Bg] at h1;obtain⟨k1,k2,k3⟩:=Sb h2 (t7 (xs:=N) (n:=14) H.nd (by rw[H.len];rfl) (by decide) (by rw[List.length_map];exact E3 hK2 h1) h3) (t7 (xs:=S) (n:=S.length) hnd rfl (by exact oS hpos) (by rw[List.length_map];exact E4 hK3 h1) h4);refine⟨.beside (dI a),?_,⟨⟨k1,t0 a⟩,?_,?_⟩,rfl,Nat.succ_le_succ k2,by show(dI a).grow≤6;lia⟩
  ·refine(e _ _).trans ((Os ..).trans ?_);show R.ok (V.fz (.tuple [.str (so "beside"),.tuple (a.map fC)]))=R.ok (V.fz (.tuple [.str (so "beside"),enc (dI a)]));rw[gN (t0 a),Be]
  ·rw[(iY a).1,List.length_map];lia
  ·rw[(iY a).1,List.length_map];lia
 ·exact hx.elim
 ·exact hv.elim
end Mine
namespace Mine
open PySem
variable {N:List Str} {m:Nat}
theorem Sd(S:List Str):aD (.ok (.fz (.list (S.map .str)))) .NotEq (.ok (.own (.list [])))=.ok (.fz (.bool (!S.isEmpty))):=(congrArg (fun p=>aV (ofP (cC p))) (nY S)).trans rfl
inductive NlR(N:List Str)(i:Int)(r:R V):Prop where
 |mk (x:Str) (h:x∈N) (g:N[i.toNat]?=some x) (e:r=.ok (.fz (.str x))):NlR N i r
theorem oB(H:Wld N){e:R V}{i:Int}(he:e=.ok (.fz (.int i)))(h:0≤i∧i < 14):NlR N i (aJ (.ok (NL N)) e):=by
 obtain⟨x,hx,ix,gx⟩:=cU H h;exact⟨x,hx,ix,by rw[he];exact congrArg ofP gx⟩
theorem t8{S:List Str}(h:S≠[])(M:Int):∃ x,x∈S∧aJ (.ok (.list (S.map .str))) (aB .Mod (.ok (.fz (.int M))) (aK aU (.ok (.fz (.list (S.map .str))))))=.ok (.fz (.str x)):=by
 obtain⟨x,hx,e⟩:=A8 h M;exact⟨x,hx,(by kernel_rfl:_=rb (ofP (aC .Mod (.int M) (.int (S.map PyData.str).length))) (fun i=>ofP (getItem (.list (S.map .str)) (dOf i)))).trans e⟩
theorem Bi{lo hi:R V}{a b:Int}(h1:lo=.ok (.fz (.int a)))(h2:hi=.ok (.fz (.int b))):aX (.ok (NL N)) (some lo) (some hi)=.ok (.own (.list ((slice N (some a) (some b)).map .str))):=by
 rw[h1,h2];exact congrArg ofP (tY _ _)
theorem gQ:1≤6:=by decide
set_option maxHeartbeats 1000000 in
theorem Se(H:Wld N)(n:Nat)(c:Int){d:PyData}{t:TT}(hd:Sem N m d t)(hn:m+4≤n):IsV N 1 6 (rn (n+4) "_law_piece" [.fz (.int c),.fz d,.fz (NL N)]):=by
 rw[Ot,show aC .Mod (.int c) (.int 10)=.ok (.fz (.int (c.fmod 10))) from eP _ (by decide),show aC .FloorDiv (.int c) (.int 10)=.ok (.fz (.int (c.fdiv 10))) from iX _ (by decide)];simp only[aM,aF,cB,cO,dR];generalize c.fmod 10=K;generalize c.fdiv 10=M;obtain⟨i,_⟩ | ⟨m,l,f,B⟩:=hd.inv
 ·exact IsV.whole
 refine IsV.ite (t:=K==0) (by kernel_rfl) (fun _=>IsV.whole) fun _=>?_;rw[A7 H B];simp only[aF,gL,cB,cO,aM,dR,nV];have hwide:=Sc H n M B;have hmem:∀ x∈bK (ks l),x∈ks l:=fun x hx=>eC.mp hx;generalize bK (ks l)=S at hmem hwide;have r4:=aP M (n:=4) (by decide);obtain⟨x4,m4,_,g4⟩:=oB H (e:=aB .Add (.ok (.fz (.int 5))) (aB .Mod (.ok (.fz (.int M))) (.ok (.fz (.int 4))))) (i:=5+M.fmod 4) (by kernel_rfl) (by exact uV r4);have r7:=aP (M.fdiv 4) (n:=7) (by decide);rw[g4];rw[show aB .Sub (aB .Mod (aB .FloorDiv (R.ok (V.fz (.int M))) (.ok (.fz (.int 4)))) (.ok (.fz (.int 7)))) (.ok (.fz (.int 3)))=.ok (.fz (.int ((M.fdiv 4).fmod 7 - 3))) from by kernel_rfl,Sa,Sd];simp only[aF];refine IsV.ite (t:=decide (K < 3)&&!S.isEmpty) (by
  rw[show aD (R.ok (V.fz (.int K))) .Lt (.ok (.fz (.int 3)))=.ok (.fz (.bool (decide (K < 3)))) from by kernel_rfl];cases decide (K < 3)<;>rfl) (fun ht=>?_) fun _=>?_
 ·have hS:S≠[]:=fun e=>by rw[e] at ht;simp at ht
  obtain⟨x,hx,e⟩:=t8 hS M;rw[e,R8];exact⟨.pick x,rfl,B.sub x (hmem x hx),rfl,Nat.zero_le _,gQ⟩
 have r14:=aP (M.fdiv 16) (n:=14) (by decide);obtain⟨y,hy,_,gy⟩:=oB H (e:=aB .Mod (aB .FloorDiv (.ok (.fz (.int M))) (.ok (.fz (.int 16)))) (.ok (.fz (.int 14)))) (i:=(M.fdiv 16).fmod 14) (by kernel_rfl) r14;rw[gy,show aD (R.ok (V.fz (.str y))) .NotIn (R.ok (V.fz (.list (S.map .str))))=.ok (.fz (.bool !(S.contains y))) from by
  show aV (ofP (cC ((ofO (strs? (S.map .str))).bind fun ss=>P.ok (ss.contains y))))=_;rw[fV];rfl]
 refine IsV.ite (t:=K==3&&(!S.isEmpty&&!(S.contains y))) (by
  rw[show aD (R.ok (V.fz (.int K))) .Eq (.ok (.fz (.int 3)))=.ok (.fz (.bool (K==3))) from by kernel_rfl];cases (K==3)<;>cases S.isEmpty<;>rfl) (fun ht=>?_) fun _=>?_
 ·have hS:S≠[]:=fun e=>by rw[e] at ht;simp at ht
  have hyS:y∉S:=fun h=>by simp[h] at ht
  obtain⟨x,hx,e⟩:=t8 hS M;rw[e,R9];exact⟨.call x y,rfl,⟨B.sub x (hmem x hx),hy,fun e=>hyS (e▸hx)⟩,rfl,Nat.zero_le _,gQ⟩
 refine IsV.ite (t:=K==4&&!S.isEmpty) (by
  rw[show aD (R.ok (V.fz (.int K))) .Eq (.ok (.fz (.int 4)))=.ok (.fz (.bool (K==4))) from by kernel_rfl];cases (K==4)<;>rfl) (fun ht=>?_) fun _=>?_
 ·have hS:S≠[]:=fun e=>by rw[e] at ht;simp at ht
  obtain⟨w,e,a1,a2,a3,a4⟩:=hwide hS;rw[show aG (rn (n+3) "_law_wide") [.ok (.fz (.int M)),(.ok (.fz (.dict (mkd l)))),.ok (.fz (.list (S.map .str))),(.ok (.fz (NL N)))]=.ok (.fz (enc w)) from e];exact⟨w,rfl,a1,a2,a3,a4⟩
 refine IsV.ite (t:=K==7||K==8) (by
  rw[show aD (R.ok (V.fz (.int K))) .Eq (.ok (.fz (.int 7)))=.ok (.fz (.bool (K==7))) from by kernel_rfl];cases (K==7)<;>kernel_rfl) (fun _=>?_) fun _=>?_
 ·have r2:=aP M (n:=2) (by decide);have r8:=aP (M.fdiv 8) (n:=4) (by decide);have r32:=aP (M.fdiv 32) (n:=6) (by decide);obtain⟨a,ma,ia,ga⟩:=oB H (e:=aB .Add (.ok (.fz (.int 2))) (aB .Mod (.ok (.fz (.int M))) (.ok (.fz (.int 2))))) (i:=2+M.fmod 2) (by kernel_rfl) (by exact E5 r2);obtain⟨b,mb,ib,gb⟩:=oB H (e:=aB .Sub (.ok (.fz (.int 3))) (aB .Mod (.ok (.fz (.int M))) (.ok (.fz (.int 2))))) (i:=3 - M.fmod 2) (by kernel_rfl) (by exact E6 r2);have hab:(2+M.fmod 2).toNat≠(3 - M.fmod 2).toNat:=by exact E7
  rw[ga,gb,show aB .Add (R.ok (V.fz (.int 5))) (aB .Mult (.ok (.fz (.int 2))) (aB .Mod (.ok (.fz (.int M))) (.ok (.fz (.int 2)))))=.ok (.fz (.int (5+2*M.fmod 2))) from by kernel_rfl];simp only[aF,cB,cO,aM];rw[Bi (a:=5+2*M.fmod 2) (b:=5+2*M.fmod 2+2) rfl (by kernel_rfl)];simp only[aF,gL,cO,aM];refine IsV.ite (t:=(M.fdiv 2).fmod 4==1) (by kernel_rfl) (fun _=>?_) fun _=>?_
  ·rw[show aB .Add (R.ok (V.fz (.int 4))) (aB .Mod (aB .FloorDiv (.ok (.fz (.int M))) (.ok (.fz (.int 8)))) (.ok (.fz (.int 4))))=.ok (.fz (.int (4+(M.fdiv 8).fmod 4))) from by kernel_rfl];simp only[aF,cB,cO,aM];rw[Bi (a:=4+(M.fdiv 8).fmod 4) (b:=4+(M.fdiv 8).fmod 4+1+(M.fdiv 32).fmod 6) rfl (by kernel_rfl)];simp only[aF,gL,cO,aM];rw[show aK cL (R.ok (V.fz (.list ((slice N (some (4+(M.fdiv 8).fmod 4)) (some (4+(M.fdiv 8).fmod 4+1+(M.fdiv 32).fmod 6))).map .str))))=.ok (.fz (.tuple ((slice N (some (4+(M.fdiv 8).fmod 4)) (some (4+(M.fdiv 8).fmod 4+1+(M.fdiv 32).fmod 6))).map .str))) from rfl,Bb];exact⟨.join a b _,rfl,A9 H ia ib hab (by exact E8 r8) (by exact E9 r32) (by exact Fa r32) (by exact Fb r8 r32),rfl,Nat.zero_le _,gQ⟩
  ·rw[show aK cL (R.ok (V.fz (.list ((slice N (some (5+2*M.fmod 2)) (some (5+2*M.fmod 2+2))).map .str))))=.ok (.fz (.tuple ((slice N (some (5+2*M.fmod 2)) (some (5+2*M.fmod 2+2))).map .str))) from rfl,Bb];exact⟨.join a b _,rfl,A9 H ia ib hab (by exact Fc r2) (by exact Fd) (by exact Fe) (by exact Ff r2),rfl,Nat.zero_le _,gQ⟩
 refine IsV.ite (t:=K==9) (by kernel_rfl) (fun _=>?_) fun _=>⟨.sift x4 _,rfl,⟨m4,by omega⟩,rfl,Nat.zero_le _,gQ⟩
 obtain⟨dx,hdx,tx,hx⟩:∃ dx,d6 (.ok (.fz (.bool (!S.isEmpty)))) (aJ (.ok (.dict (mkd l))) (aJ (.ok (.list (S.map .str))) (aB .Mod (.ok (.fz (.int M))) (aK aU (.ok (.fz (.list (S.map .str)))))))) (.ok (.fz (.int 0)))=.ok (.fz dx)∧∃ tx,Sem N m dx tx:=by
  cases hE:S.isEmpty with
  |true=>exact⟨.int 0,rfl,_,.num (by decide)⟩
  |false =>
   have hS:S≠[]:=fun e=>by rw[e] at hE;exact btf hE
   obtain⟨x,hx,e⟩:=t8 hS M;obtain⟨dx,tx,q1,q2,q3⟩:=B.key (hmem x hx);refine⟨dx,?_,tx,q3⟩;rw[e];exact congrArg ofP (dS q1)
 obtain⟨w,e,ow,rw',hw,gw⟩:=Bd H (n+1) (M.fdiv 5) hx;rw[hdx,show aG (rn (n+3) "_law_small") [(aB .FloorDiv (.ok (.fz (.int M))) (.ok (.fz (.int 5)))),.ok (.fz dx),(.ok (.fz (NL N)))]=.ok (.fz (enc w)) from (by kernel_rfl:_=rn (n+3) "_law_small" [.fz (.int (M.fdiv 5)),.fz dx,.fz (NL N)]).trans e,R7];exact⟨.each w,rfl,⟨ow,rw'⟩,rfl,Nat.succ_le_succ hw,Nat.le_trans gw gQ⟩
inductive FitV(N:List Str)(h g:Nat)(t:TT)(r:R V):Prop where
 |mk (w:WW) (e:r=.ok (.fz (enc w))) (o:okW N w∧w.isRows=false) (a:w.hgt≤h∧w.grow≤g) (s:TT) (i:aL w t=some s):FitV N h g t r
theorem Sf(H:Wld N)(n:Nat)(c:Int){d:PyData}{t:TT}(hd:Sem N m d t)(hn:m+4≤n):FitV N 1 6 t (rn (n+5) "_law_fitting" [.fz (.int c),.fz d,.fz (NL N)]):=by
 obtain⟨w,e,ow,rw',hw,gw⟩:=Se H n c hd hn;obtain⟨v,d',s1,s2,s3⟩:=R4 H ow rw' (n:=n+4) (by lia) hd;rw[Ou,e];simp only[aF,cB,dR,cO,aM];rw[show aG (rn (n+4) "_law_seen") [.ok (.fz (enc w)),.ok (.fz d)]=.ok v from s1];show FitV N 1 6 t (rb (if dT (dOf v)=true then _ else _) R.ok);rw[kP s2];rcases s3 with ⟨s,h1,h2⟩ | ⟨h1,h2⟩
 ·rw[h2.notNone];exact⟨w,rfl,⟨ow,rw'⟩,⟨hw,gw⟩,s,h1⟩
 ·rw[h2];exact⟨.whole,rfl,⟨trivial,rfl⟩,⟨Nat.zero_le _,gQ⟩,t,rfl⟩
end Mine
namespace Mine
open PySem
variable {N:List Str} {m:Nat}
noncomputable def bN:List WW→TT→Option TT
 | [],t=>some t
 |w::r,t=>(aL w t).bind (bN r)
theorem Sg:∀ (a:List WW) (w:WW) (t:TT),bN (a++[w]) t=(bN a t).bind (aL w):=by
 intro v0
 induction v0 with
 |nil =>
  intro w t;show(aL w t).bind some=aL w t;cases aL w t<;>rfl
 |cons x r ih =>
  intro w t;show(aL x t).bind (bN (r++[w]))=((aL x t).bind (bN r)).bind (aL w);cases aL x t with
  |none=>rfl
  |some u=>exact ih w u
noncomputable def gw(N:List Str)(h g:Nat)(w:WW):Prop:=(okW N w∧w.isRows=false)∧w.hgt≤h∧w.grow≤g
theorem Bj{h g h' g':Nat}{a b:WW}(ha:gw N h g a)(hb:gw N h' g' b):gw N (max h h'+1) (g+g') (.andThen a b):=by
 refine⟨⟨⟨ha.1,hb.1⟩,rfl⟩,?_,Nat.add_le_add ha.2.2 hb.2.2⟩;have:=ha.2.1;have:=hb.2.1;show max a.hgt b.hgt+1≤_;lia
theorem Bk:∀ {r:List WW} {a:WW} {h g:Nat},2≤h→gw N h g a→(∀ w∈r,gw N 2 6 w)→gw N (h+r.length) (g+6*r.length) (r.foldl .andThen a)∧∀ t,aL (r.foldl .andThen a) t=(aL a t).bind (bN r)
 | [],a,h,g,_,ha,_=>⟨ha,fun t=>by show aL a t=(aL a t).bind some;cases aL a t<;>rfl⟩
 |w::r,a,h,g,h2,ha,hr=>by
  have hw:=Bj ha (hr w (by simp));rw[Nat.max_eq_left h2] at hw;obtain⟨i1,i2⟩:=Bk (r:=r) (Nat.le_succ_of_le h2) hw fun x hx=>hr x (List.mem_cons_of_mem _ hx);refine⟨⟨i1.1,Nat.le_trans i1.2.1 ?_,Nat.le_trans i1.2.2 ?_⟩,fun t=>?_⟩
  ·rw[List.length_cons];lia
  ·rw[List.length_cons];lia
  ·refine(i2 t).trans ?_;show((aL a t).bind (aL w)).bind (bN r)=(aL a t).bind fun u=>(aL w u).bind (bN r);cases aL a t<;>rfl
theorem Bl:∀ {r:List WW} {a:WW},gw N 2 6 a→(∀ w∈r,gw N 2 6 w)→gw N (2+r.length) (6+6*r.length) (r.foldr .andThen a)∧∀ t,aL (r.foldr .andThen a) t=bN (r++[a]) t
 | [],a,ha,_=>⟨ha,fun t=>by show aL a t=(aL a t).bind some;cases aL a t<;>rfl⟩
 |w::r,a,ha,hr=>by
  obtain⟨i1,i2⟩:=Bl (r:=r) ha fun x hx=>hr x (List.mem_cons_of_mem _ hx);have hw:=Bj (hr w (by simp)) i1;rw[Nat.max_eq_right (Nat.le_add_right _ _)] at hw;refine⟨⟨hw.1,Nat.le_trans hw.2.1 ?_,Nat.le_trans hw.2.2 ?_⟩,fun t=>?_⟩
  ·rw[List.length_cons];lia
  ·rw[List.length_cons];lia
  ·show(aL w t).bind (aL (r.foldr .andThen a))=(aL w t).bind (bN (r++[a]));cases aL w t with
   |none=>rfl
   |some u=>exact i2 u
noncomputable def vS(s:List Int)(f:Int)(tr:PyData)(N:List Str)(ws:List WW)(v:V)(k x p:Option V):aA:=cA (ζ (Li s)) (ζ (.int f)) (ζ tr) (ζ (NL N)) (some (.own (.list (ws.map enc)))) (some v) k x p
theorem Sh(n:Nat){s:List Int}{f:Int}{tr:PyData}{ws:List WW}{v:V}{k:Option V}:∀ (r:List WW) (a:WW) (p:Option V),∃ p',∀ kn kr,aT (kE n) kF (r.map enc) (vS s f tr N ws v k (ζ (enc a)) p) kn kr=kn (vS s f tr N ws v k (ζ (enc (r.foldl .andThen a))) p'):=by
 intro v0
 induction v0 with
 |nil =>
  intro a p;exact⟨p,fun _ _=>rfl⟩
 |cons w r ih =>
  intro a p;obtain⟨p',e⟩:=ih (.andThen a w) (ζ (enc w));refine⟨p',fun kn kr=>(?_:_=_).trans (e kn kr)⟩;show rb (ofP (aS kF (enc w) (vS s f tr N ws v k (ζ (enc a)) p))) (fun σ=>kE n σ (fun σ=>aT (kE n) kF (r.map enc) σ kn kr) kr)=_;unfold vS;rw[Oz,aM,aF,O0,cB,cO,aM,Ba];rfl
theorem Si(n:Nat){s:List Int}{f:Int}{tr:PyData}{ws:List WW}{v:V}{k:Option V}:∀ (r:List WW) (a:WW) (p:Option V),∃ p',∀ kn kr,aT (kG n) kH (r.map enc) (vS s f tr N ws v k (ζ (enc a)) p) kn kr=kn (vS s f tr N ws v k (ζ (enc (r.foldl (fun a w=>.andThen w a) a))) p'):=by
 intro v0
 induction v0 with
 |nil =>
  intro a p;exact⟨p,fun _ _=>rfl⟩
 |cons w r ih =>
  intro a p;obtain⟨p',e⟩:=ih (.andThen w a) (ζ (enc w));refine⟨p',fun kn kr=>(?_:_=_).trans (e kn kr)⟩;show rb (ofP (aS kH (enc w) (vS s f tr N ws v k (ζ (enc a)) p))) (fun σ=>kG n σ (fun σ=>aT (kG n) kH (r.map enc) σ kn kr) kr)=_;unfold vS;rw[O2,aM,aF,O3,cB,cO,aM,Ba];rfl
theorem Bm(a:List PyData)(d:PyData):aJ (.ok (.list (a++[d]))) (unS .USub (.ok (.fz (.int 1))))=.ok (.fz d):=by
 refine Eq.trans (b:=ofP (if (-1:Int) < 0∧-((a++[d]).length:Int)≤-1 then frz (a++[d])[(-1+((a++[d]).length:Int)).toNat]? else .no)) (by kernel_rfl) ?_;rw[if_pos ⟨by decide,by rw[List.length_append,List.length_singleton];exact Fg⟩,show(-1+((a++[d]).length:Int)).toNat=a.length from by rw[List.length_append,List.length_singleton];exact Fh];simp[frz,ofP]
theorem Bn(x:PyData)(r:List PyData):slice (x::r) (some 1) none=r:=by
 unfold slice;simp only[Option.elim];rw[iW (by decide) (by rw[List.length_cons];exact Fi)];simp
theorem Sj(a:List PyData)(d:PyData):slice (a++[d]) none (some (-1))=a:=by
 unfold slice clipAt;simp only[Option.elim,List.drop_zero,Nat.sub_zero];rw[if_pos (by decide),show(max 0 (min (-1+((a++[d]).length:Int)) ((a++[d]).length:Int))).toNat=a.length from by simp;exact Fj];simp
theorem Sk(H:Wld N)(n:Nat)(s:List Int)(fi:Int){d:PyData}{t:TT}(hd:Sem N m d t)(hn:m+4≤n):FitV N 5 24 t (rn (n+6) "_law_view" [.fz (Li s),.fz (.int fi),.fz d,.fz (NL N)]):=by
 rw[Ov,fX (n+3) s fi];have r4:=aP (bC s fi) (n:=4) (by decide);obtain⟨K,hK1,hK2,hK⟩:∃ K:Nat,1≤K∧K≤4∧rgI (aB .Add (.ok (.fz (.int 1))) (aB .Mod (.ok (.fz (.int (bC s fi)))) (.ok (.fz (.int 4)))))=.ok (bX 0 K):=by
  refine⟨(1+(bC s fi).fmod 4).toNat,by exact Fk r4,by exact Fl r4,?_⟩;refine Eq.trans (b:=ofP (lG (.int (1+(bC s fi).fmod 4)))) (by kernel_rfl) ?_;show ofP (if _ then _ else _)=_;rw[if_pos (by exact Fm r4)];rfl
 rw[hK,aF];have L:=iP (S:=fun (a:List WW×V) (o:Option V)=>vS s fi d N a.1 a.2 o none none) (b:=rM (n+5)) (t:=rN) (l:=bX 0 K) (p:=[]) (a:=([],.fz d)) (j:=none)
  (I:=fun p a=>a.1.length=p.length∧(∀ w∈a.1,gw N 2 6 w)∧∃ dn tn,a.2.clear=.fz dn∧Sem N m dn tn∧bN a.1 t=some tn) (E:=fun _=>False) (Q:=fun _=>False) (fun q x r a o hq hi=>by
   obtain⟨hx,hqk⟩:=t6 (show bX 0 K=q++x::r from hq);rw[Int.zero_add] at hx;subst hx;obtain⟨h1,h2,dn,tn,h3,h4,h5⟩:=hi;obtain⟨w,e,ow,hw,sn,hs⟩:=Sf H n (bC s (fi+1+q.length)) h4 hn;have hsn:=(At H ow.1).1 ow.2 (n:=n+5) (by lia) h4;rw[hs] at hsn;obtain⟨v,d',g1,g2,g3⟩:=hsn;refine Out.kn (a.1++[w],v) (ζ (.int q.length)) ⟨by simp[h1],fun z hz=>?_,d',sn,g2,g3,by rw[Sg,h5];exact hs⟩ fun kn kr=>?_
   ·rcases List.mem_append.mp hz with hz | hz
    ·exact h2 z hz
    ·rw[List.mem_singleton.mp hz];exact⟨ow,Nat.le_trans hw.1 (by decide),hw.2⟩
   ·unfold vS;rw[Ow,aM,aF,Ox,h3,cB,dR,
     show aG (rn (n+5) "_law_mixed") [(.ok (.fz (Li s))),(aB .Add (ofP (aC .Add (.int fi) (.int 1))) (.ok (.fz (.int q.length))))]=.ok (.fz (.int (bC s (fi+1+q.length)))) from fX (n+3) s (fi+1+q.length),
     show aG (rn (n+5) "_law_fitting") [.ok (.fz (.int (bC s (fi+1+q.length)))),.ok (.fz dn),.ok (.fz (NL N))]=.ok (.fz (enc w)) from e]
    show rb (ofP (if (a.1.map enc).length < aI then P.ok (PyData.list (a.1.map enc++[enc w])) else .no)) _=_;rw[if_pos (by rw[List.length_map,h1];have:aI=16777216:=rfl;exact Fn hK2 hqk this),aM,aF,Bm,show aG (rn (n+5) "_law_seen") [.ok (.fz (enc w)),.ok (.fz dn)]=.ok v from g1,aF,show a.1.map enc++[enc w]=(a.1++[w]).map enc from by simp]) ⟨rfl,fun w hw=>(by exact bT hw),d,t,rfl,hd,rfl⟩
 obtain⟨⟨ws,v⟩,o,⟨h1,h2,dn,tn,_,_,h5⟩,e⟩ | ⟨_,hx,_⟩ | ⟨_,hv,_⟩:=L
 ·rw[List.nil_append,Bg] at h1;have h1:ws.length=K:=h1;refine(e _ _).symm▸?_;show FitV N 5 24 t (rO (n+5) (vS s fi d N ws v o none none) _ _);cases ws with
  |nil=>simp at h1;lia
  |cons w0 r =>
   have hl:r.length≤3:=by simp at h1;exact Fo hK2 h1
   unfold vS;rw[Oy,fX (n+3) s fi,show getItem (.list ((w0::r).map enc)) (.int 0)=.ok (.fz (enc w0)) from iV (by decide) rfl,aM,aF];refine bcs (((bC s fi).fdiv 4).fmod 2==0) (fun hc=>?_) fun hc=>?_
   ·try rewrite[hc]
    rw[show aD (aB .Mod (aB .FloorDiv (.ok (.fz (.int (bC s fi)))) (.ok (.fz (.int 4)))) (.ok (.fz (.int 2)))) .Eq (.ok (.fz (.int 0)))=.ok (.fz (.bool false)) from hc▸by kernel_rfl];obtain⟨ini,la,hil⟩:∃ ini la,w0::r=ini++[la]:=⟨(w0::r).dropLast,(w0::r).getLast (by simp),(List.dropLast_concat_getLast (by simp)).symm⟩
    rw[hil] at h2 h5 ⊢;have hli:ini.length≤3:=by
     have:=congrArg List.length hil;rw[List.length_append,List.length_cons,List.length_singleton] at this;exact Fp hl this
    rw[List.map_append,show[la].map enc=[enc la] from rfl,Bm,
     show rvI (aX (.ok (.list (ini.map enc++[enc la]))) none (some (unS .USub (.ok (.fz (.int 1))))))=.ok (slice (ini.map enc++[enc la]) none (some (-1))).reverse from rfl,Sj,← List.map_reverse]
    obtain⟨p,e3⟩:=Si (N:=N) (n+5) (s:=s) (f:=fi) (tr:=d) (ws:=ini++[la]) (v:=v) (k:=o) ini.reverse la none;rw[List.foldl_reverse] at e3;obtain⟨i1,i2⟩:=Bl (h2 la (by simp)) fun x hx=>h2 x (List.mem_append_left _ hx);refine⟨ini.foldr .andThen la,?_,i1.1,⟨Nat.le_trans i1.2.1 (by exact uY hli),Nat.le_trans i1.2.2 (by lia)⟩,tn,(i2 t).trans h5⟩;have:=e3 (fun σ=>rP (n+5) σ (fun _=>R.ok (.fz .none)) R.ok) R.ok;unfold vS at this;rw[List.map_append,show[la].map enc=[enc la] from rfl] at this;refine Eq.trans this ?_;exact O4 ..
   ·try rewrite[hc]
    rw[show aD (aB .Mod (aB .FloorDiv (.ok (.fz (.int (bC s fi)))) (.ok (.fz (.int 4)))) (.ok (.fz (.int 2)))) .Eq (.ok (.fz (.int 0)))=.ok (.fz (.bool true)) from hc▸by kernel_rfl,
     show plI (aX (.ok (.list ((w0::r).map enc))) (some (.ok (.fz (.int 1)))) none)=.ok (slice ((w0::r).map enc) (some 1) none) from rfl,List.map_cons,Bn]
    obtain⟨p,e2⟩:=Sh (N:=N) (n+5) (s:=s) (f:=fi) (tr:=d) (ws:=w0::r) (v:=v) (k:=o) r w0 none;obtain⟨i1,i2⟩:=Bk (Nat.le_refl 2) (h2 w0 (by simp)) fun x hx=>h2 x (List.mem_cons_of_mem _ hx);refine⟨r.foldl .andThen w0,?_,i1.1,⟨Nat.le_trans i1.2.1 (by exact uY hl),Nat.le_trans i1.2.2 (by lia)⟩,tn,(i2 t).trans h5⟩;refine(e2 _ _).trans ?_;unfold vS;exact O1 ..
 ·exact hx.elim
 ·exact hv.elim
end Mine
namespace Mine
open PySem
noncomputable def sS(l:List Nat):Str:=⟨l.toArray⟩
theorem Sl(l:List Nat):(sS l).cps.toList=l:=rfl
theorem gR(x:Str):sS x.cps.toList=x:=tG rfl
theorem sz(l:List Nat):(sS l).cps.size=l.length:=List.size_toArray
theorem gS(l:List Nat):(sS l).length=l.length:=sz l
theorem Sm(a b:List Nat):sS a++sS b=sS (a++b):=tG (by
 show((sS a).cps++(sS b).cps).toList=_;rw[Array.toList_append];rfl)
theorem Sn{a b:List Nat}(h:a.length+b.length≤aI):aB .Add (.ok (.fz (.str (sS a)))) (.ok (.fz (.str (sS b))))=.ok (.fz (.str (sS (a++b)))):=by
 show ofP (if gU .Add=true∧(sS a).length+(sS b).length≤aI then P.ok (V.fz (.str (sS a++sS b))) else .no)=_;rw[if_pos ⟨rfl,by rw[gS,gS];exact h⟩,Sm];rfl
theorem Bo(n k:Nat):clipAt n (k:Int)=min k n:=by
 rcases Nat.le_total k n with h | h
 ·simp only[iW (Int.natCast_nonneg k) (Int.ofNat_le.mpr h),Int.toNat_natCast,Nat.min_eq_left h]
 ·simp only[Ax (Int.natCast_nonneg k) (Int.ofNat_le.mpr h),Nat.min_eq_right h]
theorem Bp(T:List Nat)(p m:Nat):aX (.ok (.str (sS T))) (some (.ok (.fz (.int p)))) (some (.ok (.fz (.int (p+m:Nat)))))=.ok (.fz (.str (sS ((T.drop p).take m)))):=by
 show R.ok (V.fz (.str ⟨(slice T (some (p:Int)) (some ((p+m:Nat):Int))).toArray⟩))=_;have:slice T (some (p:Int)) (some ((p+m:Nat):Int))=(T.drop p).take m:=by
  unfold slice;show(T.drop (clipAt T.length (p:Int))).take (clipAt T.length ((p+m:Nat):Int) - clipAt T.length (p:Int))=_;rw[Bo,Bo];rcases Nat.le_total p T.length with h | h
  ·rw[Nat.min_eq_left h];rcases Nat.le_total (p+m) T.length with h' | h'
   ·rw[Nat.min_eq_left h',Nat.add_sub_cancel_left]
   ·rw[Nat.min_eq_right h',List.take_of_length_le (by rw[List.length_drop];exact Nat.le_refl _),List.take_of_length_le (by rw[List.length_drop];exact Nat.sub_le_iff_le_add'.mpr h')]
  ·rw[Nat.min_eq_right h,List.drop_length,List.drop_of_length_le h,List.take_nil,List.take_nil]
 rw[this];rfl
theorem W0(p:Nat):aC .Add (.int p) (.int 1)=.ok (.fz (.int (p+1:Nat))):=rfl
theorem oC(T:List Nat)(p:Nat):aX (.ok (.str (sS T))) (some (.ok (.fz (.int p)))) (some (ofP (aC .Add (.int p) (.int 1))))=.ok (.fz (.str (sS ((T.drop p).take 1)))):=Bp T p 1
theorem t9(a b:List Nat):aD (.ok (.fz (.str (sS a)))) .NotEq (.ok (.fz (.str (sS b))))=.ok (.fz (.bool (!(sS a==sS b)))):=rfl
theorem oE(a b:List Nat):aD (.ok (.fz (.str (sS a)))) .Eq (.ok (.fz (.str (sS b))))=.ok (.fz (.bool (sS a==sS b))):=rfl
theorem oF{a b:List Nat}(h:a≠b):(sS a==sS b)=false:=beq_false_of_ne fun e=>h (congrArg (fun x:Str=>x.cps.toList) e)
theorem oG(a:List Nat):(sS a==sS a)=true:=beq_self_eq_true _
inductive It where
 |nil
 |word (s:List Nat) (r:It)
 |sub (h r:It)
noncomputable def tlI:It→List Nat
 | .nil=>[]
 | .word s r=>32::(s++tlI r)
 | .sub h r=>32::40::((tlI h).drop 1++41::tlI r)
noncomputable def bG:It→List PyData
 | .nil=>[]
 | .word s r=>.str (sS s)::bG r
 | .sub h r=>.list (bG h)::bG r
noncomputable def It.cnt:It→Nat
 | .nil=>0
 | .word _ r=>r.cnt+1
 | .sub _ r=>r.cnt+1
noncomputable def It.dep:It→Nat
 | .nil=>0
 | .word _ r=>r.dep
 | .sub h r=>max (h.dep+1) r.dep
noncomputable def okC(c:Nat):Prop:=c≠32∧c≠40∧c≠41
structure okWd(s:List Nat):Prop where
 ne:s≠[]
 ch:∀ c∈s,okC c
 le:s.length < 4096
noncomputable def okI:It→Prop
 | .nil=>True
 | .word s r=>okWd s∧okI r
 | .sub h r=>(h.cnt≠0∧h.cnt < 4096)∧okI h∧okI r
noncomputable def uA:List Nat→Prop
 | []=>True
 |c::_=>¬ okC c
noncomputable def iS(T:List Nat)(at_:Nat)(e it its:Option V):aA:=b9 (ζ (.str (sS T))) (ζ (.int at_)) e it its
theorem iZ{T s:List Nat}{q c:Nat}(h:T.drop q=c::s):T[q]?=some c∧q < T.length∧T.drop (q+1)=s:=by
 have h1:T[q]?=some c:=by
  have:=congrArg (·[0]?) h;simpa[List.getElem?_drop] using this
 obtain⟨hl,_⟩:=List.getElem?_eq_some_iff.mp h1;refine⟨h1,hl,?_⟩;rw[← List.drop_drop,h];rfl
theorem Bq(T:List Nat){q c:Nat}(h:T[q]?=some c)(hq:q < T.length):aD (aJ (.ok (.str (sS T))) (.ok (.fz (.int q)))) .NotIn (.ok (.fz (.str (so " ()"))))=.ok (.fz (.bool (!decide (c∈[32,40,41])))):=by
 have hg:getItem (.str (sS T)) (.int q)=.ok (.fz (bF c)):=by
  show(if 0≤(q:Int)∧(q:Int) < ((sS T).cps.size:Int) then frz ((sS T).cps[(q:Int).toNat]?.map bF) else .no)=_;rw[if_pos ⟨Int.natCast_nonneg q,Int.ofNat_lt.mpr (by rw[show(sS T).cps.size=T.length from sz T];exact hq)⟩,Int.toNat_natCast,show(sS T).cps[q]?=some c from by rw[← h];exact List.getElem?_toArray];rfl
 show rb (ofP (getItem (.str (sS T)) (.int q))) (fun a=>aV (ofP (cC (Mine.contains (dOf a) (.str (so " ()"))))))=_;rw[hg];show R.ok (V.fz (.bool (!(Txt.contains (so " ()") ⟨#[c]⟩))))=_;rw[show Txt.contains (so " ()") ⟨#[c]⟩=decide (c∈[32,40,41]) from StrLaws.found_one _ c]
theorem Bs(T:List Nat)(q:Nat):aD (.ok (.fz (.int q))) .Lt (ofP (aU (.str (sS T))))=.ok (.fz (.bool (decide (q < T.length)))):=by
 show R.ok (V.fz (.bool (decide ((q:Int) < ((sS T).cps.size:Int)))))=_;rw[show(sS T).cps.size=T.length from sz T];congr 3;exact decide_eq_decide.mpr Int.ofNat_lt
theorem So(n:Nat){T rest:List Nat}(p:Nat)(hr:uA rest)(kn:KN)(kr:KR):∀ (s:List Nat) (k q:Nat),(∀ c∈s,okC c)→T.drop q=s++rest→s.length < k →
  dM (gJ n) (nE n) k (iS T p (ζ (.int q)) none none) kn kr=kn (iS T p (ζ (.int (q+s.length:Nat))) none none):=by
 intro s
 induction s with
 |nil =>
  intro k q _ hd hk;obtain⟨k,rfl⟩:∃ j,k=j+1:=⟨k - 1,(Nat.succ_pred_eq_of_pos hk).symm⟩
  show rb (gJ n (iS T p (ζ (.int q)) none none)) _=_;unfold iS;rw[zF,show rdv (.fz (.int q))=.ok (.fz (.int q)) from rfl,aM,Bs];cases rest with
  |nil =>
   rw[decide_eq_false (Nat.not_lt.mpr (List.drop_eq_nil_iff.mp hd))];rfl
  |cons c rest =>
   obtain⟨h1,h2,_⟩:=iZ hd;rw[decide_eq_true h2,Bq T h1 h2,decide_eq_true (show c∈[32,40,41] from by
    have hr:¬ okC c:=hr;unfold okC at hr;simp only[List.mem_cons,List.not_mem_nil,or_false]
    by_cases a:c=32
    ·exact .inl a
    by_cases b:c=40
    ·exact .inr (.inl b)
    by_cases d:c=41
    ·exact .inr (.inr d)
    ·exact absurd ⟨a,b,d⟩ hr)];rfl
 |cons c s ih =>
  intro k q hs hd hk;obtain⟨k,rfl⟩:∃ j,k=j+1:=⟨k - 1,(Nat.succ_pred_eq_of_pos (Nat.lt_of_le_of_lt (Nat.zero_le _) hk)).symm⟩
  obtain⟨h1,h2,h3⟩:=iZ (s:=s++rest) hd;have hc:=hs c List.mem_cons_self;have hw:gJ n (iS T p (ζ (.int q)) none none)=.ok true:=by
   unfold iS;rw[zF,show rdv (.fz (.int q))=.ok (.fz (.int q)) from rfl,aM,Bs,decide_eq_true h2,Bq T h1 h2,decide_eq_false (show c∉[32,40,41] from fun h=>by
    simp only[List.mem_cons,List.not_mem_nil,or_false] at h;rcases h with h | h | h
    ·exact hc.1 h
    ·exact hc.2.1 h
    ·exact hc.2.2 h)];rfl
  show rb (gJ n (iS T p (ζ (.int q)) none none)) _=_;rw[hw,aF,cJ];have:=ih k (q+1) (fun x hx=>hs x (List.mem_cons_of_mem _ hx)) h3 (Nat.lt_of_succ_lt_succ hk);unfold iS at this ⊢;rw[Ng];refine Eq.trans this ?_;rw[List.length_cons,show q+1+s.length=q+(s.length+1) from by rw[Nat.add_assoc,Nat.add_comm 1]]
inductive ItemR(n:Nat)(T:List Nat)(p:Nat)(d:PyData)(q:Nat):Prop where
 |mk (v:V) (e:rn n "item_at" [.fz (.str (sS T)),.fz (.int p)]=.ok v) (h:dOf v=.tuple [d,.int q]):ItemR n T p d q
theorem Bt(n:Nat){T s rest:List Nat}{p:Nat}(hs:okWd s)(hr:uA rest)(hd:T.drop p=s++rest):ItemR (n+1) T p (.str (sS s)) (p+s.length):=by
 refine⟨.fz (.tuple [.str (sS s),.int (p+s.length:Nat)]),?_,rfl⟩;have hne:=hs.ne;rw[zE,oC];have h1:((T.drop p).take 1≠[40]):=by
  rw[hd];cases s with
  |nil=>exact absurd rfl hne
  |cons c s=>exact fun e=>(hs.ch c List.mem_cons_self).2.1 (List.cons.inj (show c::[]=[40] from e)).1
 rw[show so "(" = sS [40] from rfl,t9,oF h1];show dM (gJ n) (nE n) fN (iS T p (ζ (.int p)) none none) _ _=_;rw[So n p hr _ _ s fN p hs.ch hd hs.le];unfold iS;rw[Nh];have hlen:s.length≠0:=fun e=>hne (List.length_eq_zero_iff.mp e);rw[show aD (ofP (rdv (V.clear (.fz (.int (p+s.length:Nat)))))) .Eq (.ok (.fz (.int p)))=.ok (.fz (.bool ((p+s.length:Nat)==(p:Int)))) from rfl,show(((p+s.length:Nat):Int)==(p:Int))=false from beq_false_of_ne fun e=>hlen (by lia)];show rb (aN [aX (.ok (.str (sS T))) (some (.ok (.fz (.int p)))) (some (.ok (.fz (.int (p+s.length:Nat))))),.ok (.fz (.int (p+s.length:Nat)))]) R.ok=_;rw[Bp,hd,List.take_left];rfl
end Mine
namespace Mine
open PySem
theorem kU{T a b:List Nat}{q:Nat}(h:T.drop q=a++b):T.drop (q+a.length)=b:=by
 rw[← List.drop_drop,h,List.drop_left]
theorem Bu(r:It)(rest:List Nat):uA (tlI r++41::rest):=by
 cases r with
 |nil=>exact fun h=>h.2.2 rfl
 |word s r=>exact fun h=>h.1 rfl
 |sub h r=>exact fun h=>h.1 rfl
theorem Bv(n:Nat){T:List Nat}(q:Nat)(w4 w5:V):fU n (iS T q none (some w4) (some w5))=.ok (sS ((T.drop q).take 1)==sS [32]):=by
 unfold iS;rw[Nk];show tst (aD (aX (.ok (.str (sS T))) (some (.ok (.fz (.int q)))) (some (ofP (aC .Add (.int q) (.int 1))))) .Eq (.ok (.fz (.str (sS [32])))))=_;rw[oC,oE];rfl
noncomputable def Bw(r:It):Prop:=∀ {n k q:Nat} {T rest:List Nat} {L:List PyData} {w4:V} {kn:KN} {kr:KR},r.dep+1≤n→r.cnt < k→L.length+r.cnt < aI→T.drop q=tlI r++41::rest →
 ∃ w4',dM (fU n) (j7 n) k (iS T q none (some w4) (some (.own (.list L)))) kn kr=kn (iS T (q+(tlI r).length) none (some w4') (some (.own (.list (L++bG r)))))
noncomputable def BrS(h:It):Prop:=∀ {n p:Nat} {T rest:List Nat},h.dep+1≤n→h.cnt≠0→h.cnt < 4096→T.drop p=40::((tlI h).drop 1++41::rest)→ItemR (n+1) T p (.list (bG h)) (p+(tlI h).length+1)
structure ItS(h:It):Prop where
 a:BrS h
 b:Bw h
theorem Bx{n k q q':Nat}{T:List Nat}{L:List PyData}{w4:V}{d:PyData}{kn:KN}{kr:KR}(hT:(T.drop q).take 1=[32])(hL:L.length < aI)(h:ItemR n T (q+1) d q') :
  dM (fU n) (j7 n) (k+1) (iS T q none (some w4) (some (.own (.list L)))) kn kr=dM (fU n) (j7 n) k (iS T q' none (ζ d) (some (.own (.list (L++[d]))))) kn kr:=by
 show rb (fU n (iS T q none (some w4) (some (.own (.list L))))) _=_;rw[Bv,hT,oG,aF,cJ];obtain⟨v,e,hv⟩:=h;unfold iS;rw[Nl,show aG (rn n "item_at") [.ok (.fz (.str (sS T))),aB .Add (ofP (rdv (V.clear (.fz (.int q))))) (.ok (.fz (.int 1)))]=.ok v from e,aF,hv,Nn,aM,aF,No];show(if hV (so "append") (.list L)=true then rb (ofP (if L.length < aI then P.ok (PyData.list (L++[d])) else .no)) _ else .no)=_;rw[show hV (so "append") (.list L)=true from by kernel_rfl,if_pos rfl,if_pos hL];rfl
theorem By{n p q:Nat}{T rest:List Nat}{r:It}{d:PyData}(hp:(T.drop p).take 1=[40])(h:ItemR n T (p+1) d q)(hl:Bw r)(hn:r.dep+1≤n)(hc:r.cnt < 4096)(hq:T.drop q=tlI r++41::rest):ItemR (n+1) T p (.list (d::bG r)) (q+(tlI r).length+1):=by
 obtain⟨v,e,hv⟩:=h;refine⟨.fz (.tuple [.list (d::bG r),.int (q+(tlI r).length+1:Nat)]),?_,rfl⟩;rw[zE,oC,hp,show so "(" = sS [40] from rfl,t9,oG];show rb (aG (rn n "item_at") [.ok (.fz (.str (sS T))),ofP (aC .Add (.int p) (.int 1))]) _=_;rw[show aG (rn n "item_at") [.ok (.fz (.str (sS T))),ofP (aC .Add (.int p) (.int 1))]=.ok v from e,aF,hv,Ni,aM,aF,Nj];obtain⟨w4',e2⟩:=hl (n:=n) (k:=fN) (q:=q) (T:=T) (rest:=rest) (L:=[d]) (w4:=.fz d) (kn:=fun σ=>rF n σ (fun _=>R.ok (.fz .none)) R.ok) (kr:=R.ok) hn hc (by show 1+r.cnt < 16777216;lia) hq;refine Eq.trans e2 ?_;unfold iS;rw[Nm];show ifS (aD (aX (.ok (.str (sS T))) (some (.ok (.fz (.int (q+(tlI r).length:Nat))))) (some (ofP (aC .Add (.int (q+(tlI r).length:Nat)) (.int 1))))) .NotEq (.ok (.fz (.str (sS [41]))))) _ _=_;rw[oC,kU hq,show(41::rest).take 1=[41] from rfl,t9,oG];rfl
theorem Sp:∀ {h:It},okI h→ItS h:=by
 intro h
 induction h with
 |nil =>
  intro _;refine⟨fun _ h0=>absurd rfl h0,?_⟩;intro n k q T rest L w4 kn kr hn hk hL hd;obtain⟨k,rfl⟩:∃ j,k=j+1:=⟨k - 1,(Nat.succ_pred_eq_of_pos hk).symm⟩
  refine⟨w4,?_⟩;show rb (fU n (iS T q none (some w4) (some (.own (.list L))))) _=_;rw[Bv,hd,oF (show(tlI .nil++41::rest).take 1≠[32] from by
   show[41]≠[32]
   decide),aF,dQ]
  show kn _=kn _;rw[show q+(tlI .nil).length=q from rfl,show L++bG .nil=L from List.append_nil L]
 |word s r ih =>
  intro ho;obtain⟨hs,hr⟩:=ho;have I:=ih hr;constructor
  ·intro n p T rest hn h0 hc hd;replace hd:T.drop p=40::((s++tlI r)++41::rest):=hd;obtain⟨_,_,h3⟩:=iZ hd;rw[List.append_assoc] at h3;obtain⟨n,rfl⟩:∃ j,n=j+1:=⟨n - 1,(Nat.succ_pred_eq_of_pos (Nat.lt_of_lt_of_le (Nat.succ_pos _) hn)).symm⟩
   have W:=Bt n hs (Bu r rest) h3;have:=By (r:=r) (rest:=rest) (by rw[hd];rfl) W I.b hn (Nat.lt_of_succ_lt hc) (kU h3);have e:p+1+s.length+(tlI r).length+1=p+(tlI (.word s r)).length+1:=by
    show _=p+(32::(s++tlI r)).length+1;rw[List.length_cons,List.length_append];lia
   rw[e] at this;exact this
  ·intro n k q T rest L w4 kn kr hn hk hL hd;obtain⟨k,rfl⟩:∃ j,k=j+1:=⟨k - 1,(Nat.succ_pred_eq_of_pos (Nat.lt_of_le_of_lt (Nat.zero_le _) hk)).symm⟩
   obtain⟨n,rfl⟩:∃ j,n=j+1:=⟨n - 1,(Nat.succ_pred_eq_of_pos (Nat.lt_of_lt_of_le (Nat.succ_pos _) hn)).symm⟩
   replace hd:T.drop q=32::((s++tlI r)++41::rest):=hd;obtain⟨_,_,h3⟩:=iZ hd;rw[List.append_assoc] at h3;have hc:L.length+(r.cnt+1) < aI:=hL;have hk:r.cnt+1 < k+1:=hk;obtain⟨w,e⟩:=I.b (n:=n+1) (k:=k) (q:=q+1+s.length) (T:=T) (rest:=rest) (L:=L++[.str (sS s)]) (w4:=.fz (.str (sS s))) (kn:=kn) (kr:=kr) hn (Nat.lt_of_succ_lt_succ hk) (by rw[List.length_append,List.length_singleton];lia) (kU h3);refine⟨w,(Bx (by rw[hd];rfl) (by lia) (Bt n hs (Bu r rest) h3)).trans (e.trans ?_)⟩;rw[show q+1+s.length+(tlI r).length=q+(tlI (.word s r)).length from by
    show _=q+(32::(s++tlI r)).length;rw[List.length_cons,List.length_append];lia,List.append_assoc];rfl
 |sub h r ih1 ih2 =>
  intro ho;obtain⟨⟨c1,c2⟩,o1,o2⟩:=ho;have I:=ih1 o1;have J:=ih2 o2;have hlen:1≤(tlI h).length:=by
   cases h with
   |nil=>exact absurd rfl c1
   |word=>exact Nat.succ_le_succ (Nat.zero_le _)
   |sub=>exact Nat.succ_le_succ (Nat.zero_le _)
  have hd1:((tlI h).drop 1).length+1=(tlI h).length:=by rw[List.length_drop];lia
  have tl:(tlI (.sub h r)).length=(tlI h).length+2+(tlI r).length:=by
   show(32::40::((tlI h).drop 1++41::tlI r)).length=_;rw[List.length_cons,List.length_cons,List.length_append,List.length_cons];lia
  constructor
  ·intro n p T rest hn h0 hc hd;replace hd:T.drop p=40::((40::((tlI h).drop 1++41::tlI r))++41::rest):=hd;obtain⟨_,_,h3⟩:=iZ hd;replace h3:T.drop (p+1)=40::(((tlI h).drop 1++41::tlI r)++41::rest):=h3;rw[List.append_assoc] at h3;obtain⟨n,rfl⟩:∃ j,n=j+1:=⟨n - 1,(Nat.succ_pred_eq_of_pos (Nat.lt_of_lt_of_le (Nat.succ_pos _) hn)).symm⟩
   have hn':max (h.dep+1) r.dep+1≤n+1:=hn;have W:=I.a (n:=n) (rest:=tlI r++41::rest) (by lia) c1 c2 h3;have q:T.drop (p+1+(tlI h).length+1)=tlI r++41::rest:=by
    have:=kU (a:=40::((tlI h).drop 1++[41])) (b:=tlI r++41::rest) (q:=p+1) (T:=T) (by rw[h3];simp);rw[← this];congr 1;rw[List.length_cons,List.length_append,List.length_singleton];lia
   have:=By (r:=r) (rest:=rest) (by rw[hd];rfl) W J.b (by lia) (Nat.lt_of_succ_lt hc) q;rw[show p+1+(tlI h).length+1+(tlI r).length+1=p+(tlI (.sub h r)).length+1 from by rw[tl];lia] at this;exact this
  ·intro n k q T rest L w4 kn kr hn hk hL hd;obtain⟨k,rfl⟩:∃ j,k=j+1:=⟨k - 1,(Nat.succ_pred_eq_of_pos (Nat.lt_of_le_of_lt (Nat.zero_le _) hk)).symm⟩
   obtain⟨n,rfl⟩:∃ j,n=j+1:=⟨n - 1,(Nat.succ_pred_eq_of_pos (Nat.lt_of_lt_of_le (Nat.succ_pos _) hn)).symm⟩
   have hn':max (h.dep+1) r.dep+1≤n+1:=hn;replace hd:T.drop q=32::40::(((tlI h).drop 1++41::tlI r)++41::rest):=hd;obtain⟨_,_,h3⟩:=iZ hd;rw[List.append_assoc] at h3;have W:=I.a (n:=n) (rest:=tlI r++41::rest) (by lia) c1 c2 h3;have q':T.drop (q+1+(tlI h).length+1)=tlI r++41::rest:=by
    have:=kU (a:=40::((tlI h).drop 1++[41])) (b:=tlI r++41::rest) (q:=q+1) (T:=T) (by rw[h3];simp);rw[← this];congr 1;rw[List.length_cons,List.length_append,List.length_singleton];lia
   have hc:L.length+(r.cnt+1) < aI:=hL;have hk:r.cnt+1 < k+1:=hk;obtain⟨w,e⟩:=J.b (n:=n+1) (k:=k) (q:=q+1+(tlI h).length+1) (T:=T) (rest:=rest) (L:=L++[.list (bG h)]) (w4:=.fz (.list (bG h))) (kn:=kn) (kr:=kr) (by lia) (Nat.lt_of_succ_lt_succ hk) (by rw[List.length_append,List.length_singleton];lia) q';refine⟨w,(Bx (by rw[hd];rfl) (by lia) W).trans (e.trans ?_)⟩;rw[show q+1+(tlI h).length+1+(tlI r).length=q+(tlI (.sub h r)).length from by rw[tl];lia,List.append_assoc];rfl
noncomputable def brI(h:It):List Nat:=40::((tlI h).drop 1++[41])
theorem Bz{h:It}(h0:h.cnt≠0):(brI h).length=(tlI h).length+1:=by
 have:1≤(tlI h).length:=by
  cases h with
  |nil=>exact absurd rfl h0
  |word=>exact Nat.succ_le_succ (Nat.zero_le _)
  |sub=>exact Nat.succ_le_succ (Nat.zero_le _)
 unfold brI;rw[List.length_cons,List.length_append,List.length_drop,List.length_singleton];lia
theorem Sq{h:It}(ho:okI h)(h0:h.cnt≠0)(h1:h.cnt < 4096){n:Nat}(hn:h.dep+1≤n):ItemR (n+1) (brI h) 0 (.list (bG h)) (brI h).length:=by
 have:=(Sp ho).a (n:=n) (p:=0) (T:=brI h) (rest:=[]) hn h0 h1 rfl;rw[Nat.zero_add,← Bz h0] at this;exact this
end Mine
namespace Mine
open PySem
noncomputable def dig(m:Nat):List Nat:=(Nat.toDigits 10 m).map Char.toNat
theorem fY{m:Nat}(h:m < 10):dig m=[(Nat.digitChar m).toNat]:=by unfold dig;rw[Nat.toDigits_of_lt_base h];rfl
theorem oH{m:Nat}(h:¬ m < 10):dig m=dig (m / 10)++[(Nat.digitChar (m % 10)).toNat]:=by
 have hm:m % 10 < 10:=Nat.mod_lt m (by decide);have t:Nat.toDigits 10 (m / 10)++Nat.toDigits 10 (m % 10)=Nat.toDigits 10 (10*(m / 10)+m % 10):=Nat.toDigits_append_toDigits (by decide) (by omega) hm;rw[Nat.div_add_mod] at t;unfold dig;rw[← t,List.map_append,Nat.toDigits_of_lt_base hm];rfl
theorem uB:∀ d:Nat,d < 10→48≤(Nat.digitChar d).toNat∧(Nat.digitChar d).toNat≤57:=by decide
theorem B5:∀ d:Nat,d < 10→d≠0→(Nat.digitChar d).toNat≠48:=by decide
structure DigF(m k:Nat):Prop where
 a:∀ c∈dig m,48≤c∧c≤57
 l:1≤(dig m).length
 u:(dig m).length≤k+1
 h:m≠0→∃ c r,dig m=c::r∧c≠48
theorem B6:∀ (k m:Nat),m < 10 ^ (k+1)→DigF m k:=by
 intro k
 induction k with
 |zero =>
  intro m h;have h:m < 10:=h;refine⟨fun c hc=>?_,by rw[fY h];exact Nat.le_refl _,by rw[fY h];exact Nat.le_refl _,fun h0=>⟨_,[],fY h,B5 m h h0⟩⟩;rw[fY h] at hc;rw[List.mem_singleton.mp hc];exact uB m h
 |succ k ih =>
  intro m h
  by_cases hs:m < 10
  ·refine⟨fun c hc=>?_,by rw[fY hs];exact Nat.le_refl _,by rw[fY hs];exact Nat.succ_le_succ (Nat.zero_le _),fun h0=>⟨_,[],fY hs,B5 m hs h0⟩⟩;rw[fY hs] at hc;rw[List.mem_singleton.mp hc];exact uB m hs
  ·have hd:m / 10 < 10 ^ (k+1):=Nat.div_lt_of_lt_mul (by rw[Nat.mul_comm];exact h);obtain⟨a,l,u,hh⟩:=ih (m / 10) hd;have hm:=Nat.mod_lt m (show 10 > 0 by decide);refine⟨fun c hc=>?_,?_,?_,fun h0=>?_⟩
   ·rw[oH hs] at hc;rcases List.mem_append.mp hc with hc | hc
    ·exact a c hc
    ·rw[List.mem_singleton.mp hc];exact uB _ hm
   ·rw[oH hs,List.length_append];exact Nat.le_trans l (Nat.le_add_right _ _)
   ·rw[oH hs,List.length_append];exact Nat.succ_le_succ u
   ·obtain⟨c,r,e,hc⟩:=hh (by omega);exact⟨c,r++[(Nat.digitChar (m % 10)).toNat],by rw[oH hs,e];rfl,hc⟩
theorem B7(m:Nat):NumText.digitsVal (dig m)=m:=PySem.W.KIN.val_back m
theorem B8(a b:R V):ifS (.ok (.fz (.bool true))) a b=a:=rfl
theorem kW(a b:R V):ifS (.ok (.fz (.bool false))) a b=b:=rfl
noncomputable def cF(l:Int):List Nat:=(jF l).cps.toList
theorem Sr(m:Nat):cF (m:Int)=dig m:=PySem.W.KIN.signs_num m
theorem Ss(k:Nat):cF (Int.negSucc k)=45::dig (k+1):=by
 unfold cF jF;rw[PyProof.Rows.signs_ofString];show("-" ++ Nat.repr (k+1)).toList.map Char.toNat=_;rw[String.toList_append,Nat.toList_repr];rfl
inductive NumF(l:Int):Prop where
 |nat (m:Nat) (e:l=m) (s:cF l=dig m) (f:DigF m 29):NumF l
 |neg (m:Nat) (e:l=-(m:Int)) (h:m≠0) (s:cF l=45::dig m) (f:DigF m 29):NumF l
theorem uC{l:Int}(h:l.natAbs < 10 ^ 30):NumF l:=by
 cases l with
 |ofNat m=>exact .nat m rfl (Sr m) (B6 29 m h)
 |negSucc k=>exact .neg (k+1) rfl (Nat.succ_ne_zero k) (Ss k) (B6 29 (k+1) h)
theorem Su:∀ c < 58,48≤c→c∈[48,49,50,51,52,53,54,55,56,57]:=by decide
theorem B9{cs:List Nat}(h:∀ c∈cs,48≤c∧c≤57):aK bS (aO (.ok (cs.map bF)) (fun _=>.ok true) (fun d=>aV (ofP (cmp .In d (.str (so "0123456789"))))))=.ok (.fz (.bool true)):=by
 rw[tC (g:=fun _=>true) fun d hd=>by
  obtain⟨c,hc,rfl⟩:=List.mem_map.mp hd;show R.ok (V.fz (.bool (Txt.contains (so "0123456789") ⟨#[c]⟩)))=_;rw[show Txt.contains (so "0123456789") ⟨#[c]⟩=decide (c∈[48,49,50,51,52,53,54,55,56,57]) from StrLaws.found_one _ c,decide_eq_true (Su c (Nat.lt_succ_of_le (h c hc).2) (h c hc).1)]]
 rw[List.all_eq_true.mpr fun _ _=>rfl]
theorem Cb{n:Nat}(h1:1≤n)(h2:n≤30):c7 (.ok (.fz (.int 1))) .LtE (.ok (.fz (.int n))) .LtE (.ok (.fz (.int 30)))=.ok (.fz (.bool true)):=by
 show aV (if decide ((1:Int)≤(n:Int))=true then R.ok (decide ((n:Int)≤30)) else R.ok false)=_;rw[decide_eq_true (by omega),decide_eq_true (by omega)];rfl
theorem Cc{cs:List Nat}{w:Str}(hl:1≤cs.length)(h:(∃ c r,cs=c::r∧c≠48)∨cs=[48]∧w=sS [48]):a9 (aD (aJ (.ok (.str (sS cs))) (.ok (.fz (.int 0)))) .Eq (.ok (.fz (.str (so "0"))))) (aV (ofP (cmp .NotEq (.str w) (.str (so "0")))))=.ok (.fz (.bool false)):=by
 have key:∀ c r,aJ (.ok (.str (sS (c::r)))) (.ok (.fz (.int 0)))=.ok (.fz (.str (sS [c]))):=fun c r=>by
  show ofP (if 0≤(0:Int)∧(0:Int) < ((sS (c::r)).cps.size:Int) then frz ((sS (c::r)).cps[(0:Int).toNat]?.map bF) else .no)=_;rw[if_pos ⟨Int.le_refl _,by rw[sz];simp only[List.length_cons];omega⟩];rfl
 rcases h with ⟨c,r,rfl,hc⟩ | ⟨rfl,rfl⟩
 ·rw[key,show so "0" = sS [48] from rfl,oE,oF (fun e=>hc (List.cons.inj e).1)];rfl
 ·rw[key];rfl
theorem Sv(n:Nat){l:Int}(h:l.natAbs < 10 ^ 30):rn (n+1) "number_of" [.fz (.str (sS (cF l)))]=.ok (.fz (.int l)):=by
 rw[Np];have cut0:∀ cs:List Nat,aX (.ok (.str (sS cs))) none (some (.ok (.fz (.int 1))))=.ok (.fz (.str (sS (cs.take 1)))):=fun cs=>by
  show R.ok (V.fz (.str ⟨(slice cs none (some 1)).toArray⟩))=_;rw[tO cs (by decide)];rfl
 have cutt:∀ c cs,aX (.ok (.str (sS (c::cs)))) (some (.ok (.fz (.int 1)))) none=.ok (.fz (.str (sS cs))):=fun c cs=>by
  show R.ok (V.fz (.str ⟨(slice (c::cs) (some 1) none).toArray⟩))=_;have:slice (c::cs) (some 1) none=cs:=by
   unfold slice;simp only[Option.elim];rw[iW (by decide) (by rw[List.length_cons];omega)];simp
  rw[this];rfl
 have lenE:∀ cs:List Nat,aU (.str (sS cs))=.ok (.fz (.int cs.length)):=fun cs=>by
  show P.ok (V.fz (.int ((sS cs).cps.size:Int)))=_;rw[sz]
 rcases uC h with ⟨m,rfl,s,f⟩ | ⟨m,rfl,h0,s,f⟩
 ·rw[s,cut0];have hne:dig m≠[]:=fun e=>by have:=f.l;rw[e] at this;exact absurd this (by decide)
  have h1:(dig m).take 1≠[45]:=by
   have ha:=f.a;cases hd:dig m with
   |nil=>exact absurd hd hne
   |cons c r=>exact fun e=>by have:=ha c (by rw[hd];exact List.mem_cons_self);have:=(List.cons.inj (show c::[]=[45] from e)).1;omega
  rw[show so "-" = sS [45] from rfl,oE,oF h1];show ifS (orS (unS .Not (c7 (.ok (.fz (.int 1))) .LtE (ofP (aU (.str (sS (dig m))))) .LtE (.ok (.fz (.int 30))))) (unS .Not (aK bS (aO (.ok ((dig m).map bF)) _ _)))) _ _=_;rw[lenE,aM,Cb f.l f.u,B9 f.a];show ifS (a9 (aD (aJ (.ok (.str (sS (dig m)))) (.ok (.fz (.int 0)))) .Eq (.ok (.fz (.str (so "0"))))) (aV (ofP (cmp .NotEq (.str (sS (dig m))) (.str (so "0")))))) _ _=_;rw[Cc f.l (by
   by_cases hm:m=0
   ·subst hm;exact .inr ⟨rfl,rfl⟩
   ·exact .inl (f.h hm))]
  show rb (ofP (if (sS (dig m)).length≤640 then (ofO (PySem.intText? (sS (dig m)))).bind fun i=>fz (.int i) else .no)) R.ok=_;have hu:=f.u;rw[if_pos (by rw[gS];omega),intText_digits (x:=sS (dig m)) f.a hne (by rw[gS];omega),Sl,B7];rfl
 ·rw[s,cut0,show so "-" = sS [45] from rfl,show(45::dig m).take 1=[45] from rfl,oE,oG];have hne:dig m≠[]:=fun e=>by have:=f.l;rw[e] at this;exact absurd this (by decide)
  rw[show unS .Not (.ok (.fz (.bool (fF (.str (sS (45::dig m)))))))=.ok (.fz (.bool false)) from rfl,kW,B8,cutt,aF];show ifS (orS (unS .Not (c7 (.ok (.fz (.int 1))) .LtE (ofP (aU (.str (sS (dig m))))) .LtE (.ok (.fz (.int 30))))) (unS .Not (aK bS (aO (.ok ((dig m).map bF)) _ _)))) _ _=_;rw[lenE,aM,Cb f.l f.u,B9 f.a];show ifS (a9 (aD (aJ (.ok (.str (sS (dig m)))) (.ok (.fz (.int 0)))) .Eq (.ok (.fz (.str (so "0"))))) (aV (ofP (cmp .NotEq (.str (sS (45::dig m))) (.str (so "0")))))) _ _=_;rw[Cc f.l (.inl (f.h h0))];show rb (ofP (if (sS (45::dig m)).length≤640 then (ofO (PySem.intText? (sS (45::dig m)))).bind fun i=>fz (.int i) else .no)) R.ok=_;have hu:=f.u;rw[if_pos (by rw[gS,List.length_cons];omega),intText_neg (x:=sS (45::dig m)) (cs:=dig m) rfl f.a hne (by rw[gS,List.length_cons];omega),B7];rfl
end Mine
namespace Mine
open PySem
variable {N:List Str} {m:Nat}
noncomputable def kw(s:String):List Nat:=(so s).cps.toList
noncomputable def nmL(x:Str):List Nat:=x.cps.toList
noncomputable def fsI:List Str→It
 | []=>.nil
 |x::r=>.word (nmL x) (fsI r)
noncomputable def itW:WW→It
 | .whole=>.word (kw "whole") .nil
 | .pick n=>.word (kw "pick") (.word (nmL n) .nil)
 | .call a b=>.word (kw "call") (.word (nmL a) (.word (nmL b) .nil))
 | .sift f l=>.word (kw "sift") (.word (nmL f) (.word (cF l) .nil))
 | .join a b fs=>.word (kw "join") (.word (nmL a) (.word (nmL b) (.sub (fsI fs) .nil)))
 | .each v=>.word (kw "each") (.sub (itW v) .nil)
 | .andThen a b=>.word (kw "then") (.sub (itW a) (.sub (itW b) .nil))
 | .beside r=>.word (kw "beside") (itW r)
 | .bnil=>.nil
 | .bcons n p v r=>.sub (.word (nmL n) (.word (nmL p) (.sub (itW v) .nil))) (itW r)
theorem Sw{c:Nat}(h:inL c=true):okC c:=⟨fun e=>by subst e;revert h;decide +kernel,fun e=>by subst e;revert h;decide +kernel,fun e=>by subst e;revert h;decide +kernel⟩
theorem fD(H:Wld N){x:Str}(hx:x∈N):okWd (nmL x):=by
 obtain⟨lo,hi,lt⟩:=H.ok x hx;have e:(nmL x).length=x.cps.size:=Array.length_toList;exact⟨fun h=>by rw[h] at e;rw[← e] at lo;exact absurd lo (by decide),fun c hc=>Sw (lt c hc).1,by rw[e];lia⟩
theorem Sx{l:Int}(h:l.natAbs < 10 ^ 30):okWd (cF l):=by
 have dg:∀ c:Nat,48≤c∧c≤57→okC c:=fun c h=>⟨by omega,by omega,by omega⟩
 rcases uC h with ⟨k,_,s,f⟩ | ⟨k,_,_,s,f⟩
 ·rw[s];exact⟨fun e=>by have:=f.l;rw[e] at this;exact absurd this (by decide),fun c hc=>dg c (f.a c hc),by have:=f.u;omega⟩
 ·rw[s];refine⟨fun e=>(by cases e),fun c hc=>?_,by have:=f.u;rw[List.length_cons];omega⟩;rcases List.mem_cons.mp hc with rfl | hc
  ·exact⟨by decide,by decide,by decide⟩
  ·exact dg c (f.a c hc)
theorem fZ{s:String}(h1:kw s≠[])(h2:((kw s).all fun c=>c != 32&&c != 40&&c != 41)=true)(h3:(kw s).length < 4096):okWd (kw s):=⟨h1,fun c hc=>by
 have:=List.all_eq_true.mp h2 c hc;simp only[Bool.and_eq_true,bne_iff_ne,ne_eq] at this;exact⟨this.1.1,this.1.2,this.2⟩,h3⟩
theorem Cd(fs:List Str):(fsI fs).cnt=fs.length:=by
 induction fs with
 |nil=>rfl
 |cons x r ih=>exact congrArg Nat.succ ih
theorem Sy(fs:List Str):(fsI fs).dep=0:=by
 induction fs with
 |nil=>rfl
 |cons x r ih=>exact ih
theorem Sz(H:Wld N){fs:List Str}(h:∀ f∈fs,f∈N):okI (fsI fs):=by
 induction fs with
 |nil=>exact trivial
 |cons x r ih=>exact⟨fD H (h x List.mem_cons_self),ih fun f hf=>h f (List.mem_cons_of_mem _ hf)⟩
theorem S0(fs:List Str):bG (fsI fs)=fs.map .str:=by
 induction fs with
 |nil=>rfl
 |cons x r ih =>
  show PyData.str (sS (nmL x))::bG (fsI r)=_;rw[show sS (nmL x)=x from gR x,ih];rfl
structure ItV(w:WW):Prop where
 lo:1≤(itW w).cnt
 hi:(itW w).cnt≤7
 d:(itW w).dep≤2*w.hgt+1
structure ItRw(w:WW):Prop where
 c:(itW w).cnt=w.names.length
 d:(itW w).dep≤2*w.hgt+3
structure ItF(w:WW):Prop where
 ok:okI (itW w)
 v:w.isRows=false→ItV w
 r:w.isRows=true→ItRw w
theorem gT(H:Wld N):∀ {w:WW},okW N w→ItF w:=by
 have k1:okWd (kw "whole"):=fZ (by decide) (by decide) (by decide);have k2:okWd (kw "pick"):=fZ (by decide) (by decide) (by decide);have k3:okWd (kw "call"):=fZ (by decide) (by decide) (by decide);have k4:okWd (kw "sift"):=fZ (by decide) (by decide) (by decide);have k5:okWd (kw "join"):=fZ (by decide) (by decide) (by decide);have k6:okWd (kw "each"):=fZ (by decide) (by decide) (by decide);have k7:okWd (kw "then"):=fZ (by decide) (by decide) (by decide);have k8:okWd (kw "beside"):=fZ (by decide) (by decide) (by decide);intro w
 induction w with
 |whole=>exact fun _=>⟨⟨k1,trivial⟩,fun _=>⟨by decide,by decide,by decide⟩,fun h=>bft h⟩
 |pick x=>exact fun h=>⟨⟨k2,fD H h,trivial⟩,fun _=>⟨by show 1≤2;decide,by show 2≤7;decide,Nat.zero_le _⟩,fun h=>bft h⟩
 |call a b=>exact fun h=>⟨⟨k3,fD H h.1,fD H h.2.1,trivial⟩,fun _=>⟨by show 1≤3;decide,by show 3≤7;decide,Nat.zero_le _⟩,fun h=>bft h⟩
 |sift f l=>exact fun h=>⟨⟨k4,fD H h.1,Sx h.2,trivial⟩,fun _=>⟨by show 1≤3;decide,by show 3≤7;decide,Nat.zero_le _⟩,fun h=>bft h⟩
 |join a b fs =>
  intro h;obtain⟨⟨h1,h2,_⟩,⟨h3,h4⟩,_,h5⟩:=h;have hc:=Cd fs;refine⟨⟨k5,fD H h1,fD H h2,⟨by rw[hc];omega,by rw[hc];omega⟩,Sz H h5,trivial⟩,fun _=>⟨by show 1≤4;decide,by show 4≤7;decide,?_⟩,fun h=>bft h⟩;show max ((fsI fs).dep+1) 0≤1;rw[Sy];exact Nat.le_refl _
 |each v ih =>
  intro h;obtain⟨o,fv,_⟩:=ih h.1;obtain⟨lo,hi,d⟩:=fv h.2;refine⟨⟨k6,⟨by omega,by omega⟩,o,trivial⟩,fun _=>⟨by show 1≤2;decide,by show 2≤7;decide,?_⟩,fun h=>bft h⟩;show max ((itW v).dep+1) 0≤2*(v.hgt+1)+1;lia
 |andThen a b iha ihb =>
  intro h;obtain⟨o1,f1,_⟩:=iha h.1.1;obtain⟨lo,hi,d⟩:=f1 h.1.2;obtain⟨o2,f2,_⟩:=ihb h.2.1;obtain⟨lo',hi',d'⟩:=f2 h.2.2;refine⟨⟨k7,⟨by omega,by omega⟩,o1,⟨by omega,by omega⟩,o2,trivial⟩,fun _=>⟨by show 1≤3;decide,by show 3≤7;decide,?_⟩,fun h=>bft h⟩;show max ((itW a).dep+1) (max ((itW b).dep+1) 0)≤2*(max a.hgt b.hgt+1)+1;lia
 |beside r ih =>
  intro h;obtain⟨⟨ho,hr⟩,h1,h2⟩:=h;obtain⟨o,_,fr⟩:=ih ho;obtain⟨c,d⟩:=fr hr;refine⟨⟨k8,o⟩,fun _=>⟨by show 1≤(itW r).cnt+1;lia,by show(itW r).cnt+1≤7;rw[c];exact Nat.succ_le_succ h2,?_⟩,fun h=>bft h⟩;show(itW r).dep≤2*(r.hgt+1)+1;lia
 |bnil=>exact fun _=>⟨trivial,fun h=>btf h,fun _=>⟨rfl,Nat.zero_le _⟩⟩
 |bcons n p v r ihv ihr =>
  intro h;obtain⟨⟨h1,h2⟩,⟨hv,rv⟩,⟨hr,rr⟩,_,_⟩:=h;obtain⟨o1,f1,_⟩:=ihv hv;obtain⟨lo,hi,d⟩:=f1 rv;obtain⟨o2,_,f2⟩:=ihr hr;obtain⟨c,d'⟩:=f2 rr;refine⟨⟨⟨by show 3≠0;decide,by show 3 < 4096;decide⟩,⟨fD H h1,fD H h2,⟨by omega,by omega⟩,o1,trivial⟩,o2⟩,fun h=>btf h,fun _=>⟨congrArg Nat.succ c,?_⟩⟩;show max (max ((itW v).dep+1) 0+1) (itW r).dep≤2*max v.hgt r.hgt+3;lia
theorem S1(n:Nat):rn (n+1) "view_in" [.fz (.list [.str (so "whole")])]=.ok (.fz (enc .whole)):=by kernel_rfl
theorem S2(n:Nat)(x:Str):rn (n+1) "view_in" [.fz (.list [.str (so "pick"),.str x])]=.ok (.fz (enc (.pick x))):=by kernel_rfl
theorem S3(n:Nat)(x y:Str):rn (n+1) "view_in" [.fz (.list [.str (so "call"),.str x,.str y])]=.ok (.fz (enc (.call x y))):=by kernel_rfl
theorem S4(n:Nat)(x y:Str):rn (n+1) "view_in" [.fz (.list [.str (so "sift"),.str x,.str y])]=rb (aN [.ok (.fz (.str (so "sift"))),.ok (.fz (.str x)),rn n "number_of" [.fz (.str y)]]) R.ok:=by kernel_rfl
theorem S5(n:Nat)(x y:Str)(l:List PyData):rn (n+1) "view_in" [.fz (.list [.str (so "join"),.str x,.str y,.list l])]=.ok (.fz (.tuple [.str (so "join"),.str x,.str y,.tuple l])):=by kernel_rfl
theorem S6(n:Nat)(d:PyData):rn (n+1) "view_in" [.fz (.list [.str (so "each"),d])]=rb (aK cL (aB .Add (cS [.ok (.fz (.str (so "each")))]) (aO (.ok [d]) (fun _=>.ok true) (fun d=>rn n "view_in" [.fz d])))) R.ok:=by kernel_rfl
theorem S7(n:Nat)(d e:PyData):rn (n+1) "view_in" [.fz (.list [.str (so "then"),d,e])]=rb (aK cL (aB .Add (cS [.ok (.fz (.str (so "then")))]) (aO (.ok [d,e]) (fun _=>.ok true) (fun d=>rn n "view_in" [.fz d])))) R.ok:=by kernel_rfl
theorem S8(n:Nat)(l:List PyData):rn (n+1) "view_in" [.fz (.list (.str (so "beside")::l))]=rb (aN [.ok (.fz (.str (so "beside"))),aK cL (aO (.ok (slice (.str (so "beside")::l) (some 1) none)) (fun _=>.ok true) (fun d=>rn n "row_in" [.fz d]))]) R.ok:=by
 rw[Nq,show getItem (.list (.str (so "beside")::l)) (.int 0)=.ok (.fz (.str (so "beside"))) from iV (by decide) rfl]
 kernel_rfl
theorem S9(n:Nat)(x p:Str)(d:PyData):rn (n+1) "row_in" [.fz (.list [.str x,.str p,d])]=rb (aN [.ok (.fz (.str x)),.ok (.fz (.str p)),rn n "view_in" [.fz d]]) R.ok:=by kernel_rfl
noncomputable def ViA(w:WW):Prop:=∀ n,2*w.hgt+2≤n→rn n "view_in" [.fz (.list (bG (itW w)))]=.ok (.fz (enc w))
noncomputable def ViB(w:WW):Prop:=∀ n,2*w.hgt+3≤n→aR (fun _=>.ok true) (fun d=>rn n "row_in" [.fz d]) (bG (itW w))=.ok (a8 w)
structure ViS(w:WW):Prop where
 a:w.isRows=false→ViA w
 b:w.isRows=true→ViB w
theorem f0(x:Str):sS (nmL x)=x:=gR x
theorem Ta(H:Wld N):∀ {w:WW},okW N w→ViS w:=by
 intro w
 induction w with
 |whole=>exact fun _=>⟨fun _ n hn=>exnE (c:=1) n hn hn fun n _=>S1 n,fun h=>bft h⟩
 |pick x=>exact fun _=>⟨fun _ n hn=>exnE (c:=1) n hn hn fun n _=>by
   show rn (n+1) "view_in" [.fz (.list [.str (so "pick"),.str (sS (nmL x))])]=_;rw[f0];exact S2 n x,fun h=>bft h⟩
 |call a b=>exact fun _=>⟨fun _ n hn=>exnE (c:=1) n hn hn fun n _=>by
   show rn (n+1) "view_in" [.fz (.list [.str (so "call"),.str (sS (nmL a)),.str (sS (nmL b))])]=_;rw[f0,f0];exact S3 n a b,fun h=>bft h⟩
 |sift f l =>
  intro h;refine⟨fun _ n hn=>exnE (c:=2) n hn hn fun n _=>?_,fun h=>bft h⟩;show rn (n+1+1) "view_in" [.fz (.list [.str (so "sift"),.str (sS (nmL f)),.str (sS (cF l))])]=_;rw[f0,S4,Sv n h.2];rfl
 |join a b fs=>exact fun _=>⟨fun _ n hn=>exnE (c:=1) n hn hn fun n _=>by
   show rn (n+1) "view_in" [.fz (.list [.str (so "join"),.str (sS (nmL a)),.str (sS (nmL b)),.list (bG (fsI fs))])]=_;rw[f0,f0,S5,S0];rfl,fun h=>bft h⟩
 |each v ih =>
  intro h;refine⟨fun _ n hn=>exnE (c:=1) n hn hn fun n hn=>?_,fun h=>bft h⟩;have hn:2*(v.hgt+1)+2≤n+1:=hn;show rn (n+1) "view_in" [.fz (.list [.str (so "each"),.list (bG (itW v))])]=_;rw[S6];have:=(ih h.1).a h.2 n (by lia);rw[show aO (.ok [.list (bG (itW v))]) (fun _=>.ok true) (fun d=>rn n "view_in" [.fz d])=.ok (.own (.list [enc v])) from by
   show rb (rb (nx (rn n "view_in" [.fz (.list (bG (itW v)))])) fun v=>_) _=_;rw[this];rfl];rfl
 |andThen a b iha ihb =>
  intro h;refine⟨fun _ n hn=>exnE (c:=1) n hn hn fun n hn=>?_,fun h=>bft h⟩;have hn:2*(max a.hgt b.hgt+1)+2≤n+1:=hn;show rn (n+1) "view_in" [.fz (.list [.str (so "then"),.list (bG (itW a)),.list (bG (itW b))])]=_;rw[S7];have e1:=(iha h.1.1).a h.1.2 n (by lia);have e2:=(ihb h.2.1).a h.2.2 n (by lia);rw[show aO (.ok [.list (bG (itW a)),.list (bG (itW b))]) (fun _=>.ok true) (fun d=>rn n "view_in" [.fz d])=.ok (.own (.list [enc a,enc b])) from by
   show rb (rb (nx (rn n "view_in" [.fz (.list (bG (itW a)))])) fun v=>rb (rb (nx (rn n "view_in" [.fz (.list (bG (itW b)))])) fun v=>_) _) _=_;rw[e1,e2];rfl];rfl
 |beside r ih =>
  intro h;refine⟨fun _ n hn=>exnE (c:=1) n hn hn fun n hn=>?_,fun h=>bft h⟩;have hn:2*(r.hgt+1)+2≤n+1:=hn;show rn (n+1) "view_in" [.fz (.list (.str (so "beside")::bG (itW r)))]=_;have e1:=(ih h.1.1).b h.1.2 n (by lia);rw[S8,Bn,show aO (.ok (bG (itW r))) (fun _=>.ok true) (fun d=>rn n "row_in" [.fz d])=.ok (.own (.list (a8 r))) from by
   show rb (aR _ _ (bG (itW r))) _=_;rw[e1];rfl]
  show R.ok (V.fz (.tuple [.str (so "beside"),.tuple (a8 r)]))=_;rw[← gN h.1.2];rfl
 |bnil=>exact fun _=>⟨fun h=>btf h,fun _ n hn=>rfl⟩
 |bcons x p v r ihv ihr =>
  intro h;obtain⟨_,⟨hv,rv⟩,⟨hr,rr⟩,_,_⟩:=h;refine⟨fun h=>btf h,fun _ n hn=>?_⟩;have hn':2*max v.hgt r.hgt+3≤n:=hn;have e2:=(ihr hr).b rr n (by lia);have e1:rn n "row_in" [.fz (.list [.str (sS (nmL x)),.str (sS (nmL p)),.list (bG (itW v))])]=.ok (.fz (.tuple [.str x,.str p,enc v])):=by
   refine exnE (c:=1) n hn' hn' fun n hn'=>?_;rw[f0,f0,S9,(ihv hv).a rv n (by lia)];rfl
  show rb (nx (rn n "row_in" [.fz (.list [.str (sS (nmL x)),.str (sS (nmL p)),.list (bG (itW v))])])) (fun v=>rb (aR _ _ (bG (itW r))) fun xs=>_)=_;rw[e1,e2];rfl
theorem Tc(H:Wld N){w:WW}(ho:okW N w)(hr:w.isRows=false){n:Nat}(hn:3*w.hgt+5≤n):rn (n+1) "read" [.fz (.str (sS (brI (itW w))))]=.ok (.fz (enc w)):=by
 obtain⟨o,fv,_⟩:=gT H ho;obtain⟨lo,hi,d⟩:=fv hr;rw[Nr];refine exnE (c:=1) n hn hn fun n hn=>?_;obtain⟨v,e,hv⟩:=Sq o (by omega) (by omega) (n:=n) (by lia);show rb (rn (n+1) "item_at" [.fz (.str (sS (brI (itW w)))),.fz (.int (0:Nat))]) _=_;rw[e,aF,hv,Nt,aM,aF,Nu];have hl:aD (.ok (.fz (.int ((brI (itW w)).length:Nat)))) .NotEq (ofP (aU (.str (sS (brI (itW w))))))=.ok (.fz (.bool false)):=by
  show R.ok (V.fz (.bool (!(((brI (itW w)).length:Int)==((sS (brI (itW w))).cps.size:Int)))))=_;rw[sz,beq_self_eq_true];rfl
 rw[hl,kW,(Ta H ho).a hr (n+1) (by lia),aF,show aG (rn (n+1) "is_view") [bQ (V.clear (.fz (enc w)))]=.ok (.fz (.bool true)) from (Ad H ho).1 hr (n+1) (by lia)];rfl
end Mine
namespace Mine
open PySem
variable {N:List Str} {m:Nat}
noncomputable def tw:List (List Nat)→List Nat
 | []=>[]
 |s::r=>32::(s++tw r)
noncomputable def elI:It→List (List Nat)
 | .nil=>[]
 | .word s r=>s::elI r
 | .sub h r=>brI h::elI r
theorem i7:∀ f:It,tlI f=tw (elI f):=by
 intro f
 induction f with
 |nil=>rfl
 |word s r ih =>
  show 32::(s++tlI r)=32::(s++tw (elI r));rw[ih]
 |sub h r _ ih =>
  show 32::40::((tlI h).drop 1++41::tlI r)=32::((40::((tlI h).drop 1++[41]))++tw (elI r));rw[ih];simp
theorem Td:∀ ws:List (List Nat),(tw ws).length=(ws.map List.length).sum+ws.length:=by
 intro ws
 induction ws with
 |nil=>rfl
 |cons s r ih =>
  show(32::(s++tw r)).length=_;rw[List.length_cons,List.length_append,ih,List.map_cons,List.sum_cons,List.length_cons];lia
theorem Te:∀ (r:List (List Nat)) (a:List Nat),(r.map sS).foldl (fun acc p=>acc++(sS [32]).cps++p.cps) a.toArray=(a++tw r).toArray:=by
 intro r
 induction r with
 |nil=>intro a;show a.toArray=(a++[]).toArray;rw[List.append_nil]
 |cons s r ih =>
  intro a;show(r.map sS).foldl (fun acc p=>acc++(sS [32]).cps++p.cps) (a.toArray++(sS [32]).cps++(sS s).cps)=_;rw[show a.toArray++(sS [32]).cps++(sS s).cps=(a++32::s).toArray from by
   show a.toArray++[32].toArray++s.toArray=_;simp,ih]
  congr 1;show a++32::s++tw r=a++32::(s++tw r);simp
theorem Tf(ws:List (List Nat)):Txt.join (sS [32]) (ws.map sS)=sS ((tw ws).drop 1):=by
 cases ws with
 |nil=>rfl
 |cons s r =>
  show(⟨(r.map sS).foldl (fun acc p=>acc++(sS [32]).cps++p.cps) s.toArray⟩:Str)=_;rw[Te];rfl
noncomputable def wD(s:List Nat):PyData:=.str (sS s)
theorem Th{ws:List (List Nat)}(h:(tw ws).length≤aI):JoinOk (sS [32]) (ws.map sS)=true:=by
 unfold JoinOk;rw[StrLaws.joinTotal];have e:((ws.map sS).map (·.length)).sum+(ws.map sS).length*(sS [32]).length=(tw ws).length:=by
  rw[Td,List.map_map,List.length_map,show(fun x:Str=>x.length)∘sS=List.length from funext fun l=>gS l,show(sS [32]).length=1 from rfl,Nat.mul_one]
 rw[e];show(!decide ((tw ws).length > sizeLine))=true;rw[decide_eq_false (Nat.not_lt.mpr (by rw[sizeLine_eq];exact h))];rfl
theorem Ti(ws:List (List Nat)):strs? (ws.map wD)=some (ws.map sS):=by
 rw[show ws.map wD=(ws.map sS).map .str from by rw[List.map_map];rfl];exact fV _
theorem oJ{ws:List (List Nat)}(h:(tw ws).length≤aI):bH (so "join") (.ok (.fz (.str (sS [32])))) [.ok (.own (.list (ws.map wD)))]=.ok (.fz (.str (sS ((tw ws).drop 1)))):=by
 show ofP ((ofO (strs? (ws.map wD))).bind fun l=>if JoinOk (sS [32]) l then fz (.str (Txt.join (sS [32]) l)) else .no)=_;rw[Ti];show ofP (if JoinOk (sS [32]) (ws.map sS)=true then fz (.str (Txt.join (sS [32]) (ws.map sS))) else .no)=_;rw[if_pos (Th h),Tf];rfl
theorem Ce{d:PyData}{ws:List (List Nat)}(hd:d=.list (ws.map wD)∨d=.tuple (ws.map wD))(h:(tw ws).length≤aI):bH (so "join") (.ok (.fz (.str (sS [32])))) [.ok (.fz d)]=.ok (.fz (.str (sS ((tw ws).drop 1)))):=by
 rcases hd with rfl | rfl
 ·exact oJ h
 ·exact oJ h
theorem i8{s:List Nat}{ws:List (List Nat)}(h:s∈ws):s.length+1≤(tw ws).length:=by
 induction ws with
 |nil=>exact bT h
 |cons x r ih =>
  show _≤(32::(x++tw r)).length;rw[List.length_cons,List.length_append];rcases List.mem_cons.mp h with rfl | h
  ·lia
  ·have:=ih h;lia
theorem Cf{l:Int}(h:l.natAbs < 10 ^ 30):eR (.int l)=.ok (.fz (.str (sS (cF l)))):=by
 show(if l.natAbs.log2 < 1920 then fz (.str (jF l)) else .no)=_;rw[if_pos ?_,show sS (cF l)=jF l from gR _];rfl
 by_cases h0:l.natAbs=0
 ·rw[h0];decide
 ·exact(Nat.log2_lt h0).mpr (Nat.lt_trans h (by decide +kernel))
theorem Tj(n:Nat):rn (n+1) "note_of" [.fz (enc .whole)]=rb (aB .Add (aB .Add (.ok (.fz (.str (sS [40])))) (bH (so "join") (.ok (.fz (.str (sS [32])))) [.ok (.own (.list [.str (so "whole")]))])) (.ok (.fz (.str (sS [41]))))) R.ok:=by kernel_rfl
theorem Tk(n:Nat)(x:Str):rn (n+1) "note_of" [.fz (enc (.pick x))]=rb (aB .Add (aB .Add (.ok (.fz (.str (sS [40])))) (bH (so "join") (.ok (.fz (.str (sS [32])))) [.ok (.own (.list [.str (so "pick"),.str x]))])) (.ok (.fz (.str (sS [41]))))) R.ok:=by kernel_rfl
theorem Tl(n:Nat)(x y:Str):rn (n+1) "note_of" [.fz (enc (.call x y))]=rb (aB .Add (aB .Add (.ok (.fz (.str (sS [40])))) (bH (so "join") (.ok (.fz (.str (sS [32])))) [.ok (.own (.list [.str (so "call"),.str x,.str y]))])) (.ok (.fz (.str (sS [41]))))) R.ok:=by kernel_rfl
theorem Tm(n:Nat)(x:Str)(l:Int):rn (n+1) "note_of" [.fz (enc (.sift x l))]=rb (aB .Add (aB .Add (.ok (.fz (.str (sS [40])))) (bH (so "join") (.ok (.fz (.str (sS [32])))) [aO (.ok [.str (so "sift"),.str x,.int l]) (fun _=>.ok true) (fun d=>ofP (eR d))])) (.ok (.fz (.str (sS [41]))))) R.ok:=by kernel_rfl
theorem Tn(n:Nat)(x y:Str)(fs:List Str):rn (n+1) "note_of" [.fz (enc (.join x y fs))]=rb (aB .Add (aB .Add (aB .Add (aB .Add (aB .Add (aB .Add (.ok (.fz (.str (sS (kw "(join "))))) (.ok (.fz (.str x)))) (.ok (.fz (.str (sS [32]))))) (.ok (.fz (.str y)))) (.ok (.fz (.str (sS [32,40]))))) (bH (so "join") (.ok (.fz (.str (sS [32])))) [.ok (.fz (.tuple (fs.map .str)))])) (.ok (.fz (.str (sS [41,41]))))) R.ok:=by kernel_rfl
theorem To(n:Nat)(v:WW):rn (n+1) "note_of" [.fz (enc (.each v))]=rb (aB .Add (aB .Add (aB .Add (aB .Add (.ok (.fz (.str (sS [40])))) (.ok (.fz (.str (sS (kw "each")))))) (.ok (.fz (.str (sS [32]))))) (bH (so "join") (.ok (.fz (.str (sS [32])))) [aO (.ok [enc v]) (fun _=>.ok true) (fun d=>rn n "note_of" [.fz d])])) (.ok (.fz (.str (sS [41]))))) R.ok:=by kernel_rfl
theorem Tp(n:Nat)(a b:WW):rn (n+1) "note_of" [.fz (enc (.andThen a b))]=rb (aB .Add (aB .Add (aB .Add (aB .Add (.ok (.fz (.str (sS [40])))) (.ok (.fz (.str (sS (kw "then")))))) (.ok (.fz (.str (sS [32]))))) (bH (so "join") (.ok (.fz (.str (sS [32])))) [aO (.ok [enc a,enc b]) (fun _=>.ok true) (fun d=>rn n "note_of" [.fz d])])) (.ok (.fz (.str (sS [41]))))) R.ok:=by kernel_rfl
noncomputable def noR(n:Nat)(d2:PyData):R V:=aB .Add (aB .Add (aB .Add (aB .Add (aB .Add (aB .Add (.ok (.fz (.str (sS [40])))) (ofP (getItem d2 (.int 0)))) (.ok (.fz (.str (sS [32]))))) (ofP (getItem d2 (.int 1)))) (.ok (.fz (.str (sS [32]))))) (aG (rn n "note_of") [ofP (getItem d2 (.int 2))])) (.ok (.fz (.str (sS [41]))))
theorem Tq(n:Nat)(r:WW):rn (n+1) "note_of" [.fz (enc (.beside r))]=rb (aO (plI (.ok (.fz (enc r)))) (fun _=>.ok true) (noR n)) fun v3=>rb (aB .Add (aB .Add (.ok (.fz (.str (sS (kw "(beside "))))) (bH (so "join") (.ok (.fz (.str (sS [32])))) [ofP (rdv (V.clear v3))])) (.ok (.fz (.str (sS [41]))))) R.ok:=by kernel_rfl
noncomputable def NoA(w:WW):Prop:=∀ n,2*w.hgt+2≤n→(brI (itW w)).length≤aI→rn n "note_of" [.fz (enc w)]=.ok (.fz (.str (sS (brI (itW w)))))
noncomputable def NoB(w:WW):Prop:=∀ n,2*w.hgt+2≤n→(tlI (itW w)).length≤aI→aR (fun _=>.ok true) (noR n) (a8 w)=.ok ((elI (itW w)).map wD)
structure NoS(w:WW):Prop where
 a:w.isRows=false→NoA w
 b:w.isRows=true→NoB w
theorem bD{a b c:List Nat}{r:R V}(hr:r=.ok (.fz (.str (sS a))))(hc:a++b=c)(h:c.length≤aI):aB .Add r (.ok (.fz (.str (sS b))))=.ok (.fz (.str (sS c))):=by
 rw[hr,← hc,Sn (by rw[← List.length_append,hc];exact h)]
theorem f6{a c:List Nat}{x:Str}{r:R V}(hr:r=.ok (.fz (.str (sS a))))(hc:a++nmL x=c)(h:c.length≤aI):aB .Add r (.ok (.fz (.str x)))=.ok (.fz (.str (sS c))):=by
 have:=bD (b:=nmL x) hr hc h;rw[show sS (nmL x)=x from gR x] at this;exact this
theorem i9(f:It):brI f=40::((tw (elI f)).drop 1++[41]):=by
 unfold brI;rw[i7]
theorem oK{ws:List (List Nat)}{r:R V}(hr:r=.ok (.own (.list (ws.map wD))))(hl:(40::((tw ws).drop 1++[41])).length≤aI):rb (aB .Add (aB .Add (.ok (.fz (.str (sS [40])))) (bH (so "join") (.ok (.fz (.str (sS [32])))) [r])) (.ok (.fz (.str (sS [41]))))) R.ok=.ok (.fz (.str (sS (40::((tw ws).drop 1++[41]))))):=by
 rw[List.length_cons,List.length_append,List.length_drop,List.length_singleton] at hl;rw[hr,oJ (by lia),bD (a:=[40]) (c:=40::(tw ws).drop 1) rfl rfl (by rw[List.length_cons,List.length_drop];lia),bD (c:=40::((tw ws).drop 1++[41])) rfl rfl (by rw[List.length_cons,List.length_append,List.length_drop,List.length_singleton];lia)];rfl
theorem W1(s:String):wD (kw s)=.str (so s):=rfl
theorem kX(x:Str):wD (nmL x)=.str x:=congrArg PyData.str (gR x)
theorem Cg{k:List Nat}{ws:List (List Nat)}{r:R V}(hw:ws≠[])(hr:r=.ok (.own (.list (ws.map wD))))(hl:(40::((tw (k::ws)).drop 1++[41])).length≤aI) :
  rb (aB .Add (aB .Add (aB .Add (aB .Add (.ok (.fz (.str (sS [40])))) (.ok (.fz (.str (sS k))))) (.ok (.fz (.str (sS [32]))))) (bH (so "join") (.ok (.fz (.str (sS [32])))) [r])) (.ok (.fz (.str (sS [41]))))) R.ok=.ok (.fz (.str (sS (40::((tw (k::ws)).drop 1++[41]))))):=by
 have e:(tw (k::ws)).drop 1=k++32::(tw ws).drop 1:=by
  cases ws with
  |nil=>exact absurd rfl hw
  |cons s r=>rfl
 rw[e] at hl ⊢;rw[List.length_cons,List.length_append,List.length_append,List.length_cons,List.length_drop,List.length_singleton] at hl;have h1:1≤(tw ws).length:=by
  cases ws with
  |nil=>exact absurd rfl hw
  |cons s r=>exact Nat.succ_le_succ (Nat.zero_le _)
 rw[hr,oJ (by lia),bD (a:=[40]) (c:=40::k) rfl rfl (by rw[List.length_cons];lia),bD (c:=40::(k++[32])) rfl rfl (by rw[List.length_cons,List.length_append];simp only[List.length_singleton];lia),
  bD (c:=40::(k++32::(tw ws).drop 1)) rfl (by simp) (by rw[List.length_cons,List.length_append,List.length_cons,List.length_drop];lia),
  bD (c:=40::(k++32::(tw ws).drop 1++[41])) rfl rfl (by rw[List.length_cons,List.length_append,List.length_append,List.length_cons,List.length_drop,List.length_singleton];lia)];rfl
theorem Ts(n:Nat){x p:Str}{v:WW}{t:List Nat}(h:rn n "note_of" [.fz (enc v)]=.ok (.fz (.str (sS t))))(hl:(40::(nmL x++32::(nmL p++32::(t++[41])))).length≤aI):noR n (.tuple [.str x,.str p,enc v])=.ok (.fz (.str (sS (40::(nmL x++32::(nmL p++32::(t++[41]))))))):=by
 simp only[List.length_cons,List.length_append,List.length_nil] at hl;show aB .Add (aB .Add (aB .Add (aB .Add (aB .Add (aB .Add (.ok (.fz (.str (sS [40])))) (.ok (.fz (.str x)))) (.ok (.fz (.str (sS [32]))))) (.ok (.fz (.str p)))) (.ok (.fz (.str (sS [32]))))) (rn n "note_of" [.fz (enc v)])) (.ok (.fz (.str (sS [41]))))=_;rw[h,f6 (c:=40::nmL x) rfl rfl (by simp only[List.length_cons];lia),bD (c:=40::(nmL x++[32])) rfl rfl (by simp only[List.length_cons,List.length_append,List.length_nil];lia),
  f6 (c:=40::(nmL x++32::nmL p)) rfl (by simp) (by simp only[List.length_cons,List.length_append];lia),bD (c:=40::(nmL x++32::(nmL p++[32]))) rfl (by simp) (by simp only[List.length_cons,List.length_append,List.length_nil];lia),
  bD (c:=40::(nmL x++32::(nmL p++32::t))) rfl (by simp) (by simp only[List.length_cons,List.length_append];lia),bD (c:=40::(nmL x++32::(nmL p++32::(t++[41])))) rfl (by simp) (by simp only[List.length_cons,List.length_append,List.length_nil];lia)]
theorem Ch(fs:List Str):elI (fsI fs)=fs.map nmL:=by
 induction fs with
 |nil=>rfl
 |cons x r ih=>exact congrArg (nmL x::·) ih
theorem Tt(H:Wld N):∀ {w:WW},okW N w→NoS w:=by
 intro w
 induction w with
 |whole=>exact fun _=>⟨fun _ n hn hl=>exnE (c:=1) n hn hn fun n _=>(Tj n).trans (oK (ws:=[kw "whole"]) rfl hl),fun h=>bft h⟩
 |pick x=>exact fun _=>⟨fun _ n hn hl=>exnE (c:=1) n hn hn fun n _=>(Tk n x).trans (oK (ws:=[kw "pick", nmL x]) (by
   show _=R.ok (V.own (PyData.list [wD (kw "pick"),wD (nmL x)]));rw[kX];rfl) hl),fun h=>bft h⟩
 |call a b=>exact fun _=>⟨fun _ n hn hl=>exnE (c:=1) n hn hn fun n _=>(Tl n a b).trans (oK (ws:=[kw "call", nmL a,nmL b]) (by
   show _=R.ok (V.own (PyData.list [wD (kw "call"),wD (nmL a),wD (nmL b)]));rw[kX,kX];rfl) hl),fun h=>bft h⟩
 |sift f l=>exact fun h=>⟨fun _ n hn hl=>exnE (c:=1) n hn hn fun n _=>(Tm n f l).trans (oK (ws:=[kw "sift", nmL f,cF l]) (by
   rw[kS,iQ (g:=fun d=>if eF d=true then wD (cF l) else d) fun d hd=>by
    simp only[List.mem_cons,List.not_mem_nil,or_false] at hd;rcases hd with rfl | rfl | rfl
    ·exact⟨rfl,_,rfl,rfl⟩
    ·exact⟨rfl,_,rfl,rfl⟩
    ·exact⟨rfl,_,by rw[Cf h.2];rfl,rfl⟩]
   show _=R.ok (V.own (PyData.list [wD (kw "sift"),wD (nmL f),wD (cF l)]));rw[kX];rfl) hl),fun h=>bft h⟩
 |join a b fs =>
  intro h;refine⟨fun _ n hn hl=>exnE (c:=1) n hn hn fun n _=>(Tn n a b fs).trans ?_,fun h=>bft h⟩;have e:brI (itW (.join a b fs))=kw "(join " ++ (nmL a++32::(nmL b++32::40::((tw (fs.map nmL)).drop 1++[41,41]))):=by
   show 40::(kw "join" ++ (32::(nmL a++(32::(nmL b++(32::40::((tlI (fsI fs)).drop 1++41::[]))))))++[41])=_;rw[i7,Ch,show kw "(join " = 40::(kw "join" ++ [32]) from rfl];simp
  rw[e] at hl ⊢;have hk:(kw "(join ").length=6:=rfl;simp only[List.length_cons,List.length_append,List.length_nil,List.length_drop,hk] at hl;rw[Ce (ws:=fs.map nmL) (.inr (by rw[List.map_map,show wD∘nmL=PyData.str from funext kX])) (by lia),f6 (c:=kw "(join " ++ nmL a) rfl rfl (by simp only[List.length_append,hk];lia),bD (c:=kw "(join " ++ (nmL a++[32])) rfl (by simp) (by simp only[List.length_cons,List.length_append,List.length_nil,hk];lia),
   f6 (c:=kw "(join " ++ (nmL a++32::nmL b)) rfl (by simp) (by simp only[List.length_cons,List.length_append,hk];lia),bD (c:=kw "(join " ++ (nmL a++32::(nmL b++[32,40]))) rfl (by simp) (by simp only[List.length_cons,List.length_append,List.length_nil,hk];lia),
   bD (c:=kw "(join " ++ (nmL a++32::(nmL b++32::40::(tw (fs.map nmL)).drop 1))) rfl (by simp) (by simp only[List.length_cons,List.length_append,List.length_drop,hk];lia),
   bD (c:=kw "(join " ++ (nmL a++32::(nmL b++32::40::((tw (fs.map nmL)).drop 1++[41,41])))) rfl (by simp) (by simp only[List.length_cons,List.length_append,List.length_nil,List.length_drop,hk];lia)];rfl
 |each v ih =>
  intro h;refine⟨fun _ n hn hl=>exnE (c:=1) n hn hn fun n hn=>(To n v).trans ?_,fun h=>bft h⟩;have hn:2*(v.hgt+1)+2≤n+1:=hn;have e:brI (itW (.each v))=40::((tw (kw "each" :: [brI (itW v)])).drop 1++[41]):=i9 _;rw[e] at hl ⊢;have hb:(brI (itW v)).length≤aI:=by
   have:=i8 (s:=brI (itW v)) (ws:=kw "each" :: [brI (itW v)]) (by simp);simp only[List.length_cons,List.length_append,List.length_nil,List.length_drop] at hl;lia
  refine Cg (by simp) ?_ hl;show rb (rb (nx (rn n "note_of" [.fz (enc v)])) fun v=>_) _=_;rw[(ih h.1).a h.2 n (by lia) hb];rfl
 |andThen a b iha ihb =>
  intro h;refine⟨fun _ n hn hl=>exnE (c:=1) n hn hn fun n hn=>(Tp n a b).trans ?_,fun h=>bft h⟩;have hn:2*(max a.hgt b.hgt+1)+2≤n+1:=hn;have e:brI (itW (.andThen a b))=40::((tw (kw "then" :: [brI (itW a),brI (itW b)])).drop 1++[41]):=i9 _;rw[e] at hl ⊢;have hb:(brI (itW a)).length≤aI∧(brI (itW b)).length≤aI:=by
   have:=i8 (s:=brI (itW a)) (ws:=kw "then" :: [brI (itW a),brI (itW b)]) (by simp);have:=i8 (s:=brI (itW b)) (ws:=kw "then" :: [brI (itW a),brI (itW b)]) (by simp);simp only[List.length_cons,List.length_append,List.length_nil,List.length_drop] at hl;constructor<;>lia
  refine Cg (by simp) ?_ hl;show rb (rb (nx (rn n "note_of" [.fz (enc a)])) fun v=>rb (rb (nx (rn n "note_of" [.fz (enc b)])) fun v=>_) _) _=_;rw[(iha h.1.1).a h.1.2 n (by lia) hb.1,(ihb h.2.1).a h.2.2 n (by lia) hb.2];rfl
 |beside r ih =>
  intro h;refine⟨fun _ n hn hl=>exnE (c:=1) n hn hn fun n hn=>(Tq n r).trans ?_,fun h=>bft h⟩;have hn:2*(r.hgt+1)+2≤n+1:=hn;have hne:elI (itW r)≠[]:=by
   obtain⟨_,_,fr⟩:=gT H h.1.1;obtain⟨c,_⟩:=fr h.1.2;cases hi:itW r with
   |nil=>rw[hi] at c;have:=h.2.1;rw[← c] at this;exact absurd this (by decide)
   |word=>exact fun e=>(by cases e)
   |sub=>exact fun e=>(by cases e)
  have e:brI (itW (.beside r))=kw "(beside " ++ ((tw (elI (itW r))).drop 1++[41]):=by
   rw[i9];show 40::((kw "beside" ++ tw (elI (itW r)))++[41])=_;cases he:elI (itW r) with
   |nil=>exact absurd he hne
   |cons s l=>rw[show kw "(beside " = 40::(kw "beside" ++ [32]) from rfl];simp[tw]
  rw[e] at hl ⊢;have hk:(kw "(beside ").length=8:=rfl;simp only[List.length_cons,List.length_append,List.length_nil,List.length_drop,hk] at hl;have hb:(tw (elI (itW r))).length≤aI:=by lia
  rw[gN h.1.2];show rb (rb (aR _ (noR n) (a8 r)) fun r=>ofP (own (.list r))) _=_;rw[(ih h.1.1).b h.1.2 n (by lia) (by rw[i7];exact hb)];show rb (aB .Add (aB .Add (.ok (.fz (.str (sS (kw "(beside "))))) (bH (so "join") (.ok (.fz (.str (sS [32])))) [.ok (.fz (.list ((elI (itW r)).map wD)))])) (.ok (.fz (.str (sS [41]))))) R.ok=_;rw[Ce (ws:=elI (itW r)) (.inl rfl) hb,bD (c:=kw "(beside " ++ (tw (elI (itW r))).drop 1) rfl rfl (by simp only[List.length_append,List.length_drop,hk];lia),bD (c:=kw "(beside " ++ ((tw (elI (itW r))).drop 1++[41])) rfl (by simp) (by simp only[List.length_cons,List.length_append,List.length_nil,List.length_drop,hk];lia)];rfl
 |bnil=>exact fun _=>⟨fun h=>btf h,fun _ n hn _=>rfl⟩
 |bcons x p v r ihv ihr =>
  intro h;obtain⟨_,⟨hv,rv⟩,⟨hr,rr⟩,_,_⟩:=h;refine⟨fun h=>btf h,fun _ n hn hl=>?_⟩;have hn':2*max v.hgt r.hgt+2≤n:=hn;have e:brI (.word (nmL x) (.word (nmL p) (.sub (itW v) .nil)))=40::(nmL x++32::(nmL p++32::(brI (itW v)++[41]))):=by
   rw[i9];show 40::((nmL x++32::(nmL p++32::(brI (itW v)++[])))++[41])=_;simp
  rw[show tlI (itW (.bcons x p v r))=tw (brI (.word (nmL x) (.word (nmL p) (.sub (itW v) .nil)))::elI (itW r)) from i7 _,e] at hl;have hl':(32::((40::(nmL x++32::(nmL p++32::(brI (itW v)++[41]))))++tw (elI (itW r)))).length≤aI:=hl;simp only[List.length_cons,List.length_append,List.length_nil] at hl';have e1:=Ts n (x:=x) (p:=p) ((ihv hv).a rv n (by lia) (by lia)) (by simp only[List.length_cons,List.length_append,List.length_nil];lia);have e2:=(ihr hr).b rr n (by lia) (by rw[i7];lia);show rb (nx (noR n (.tuple [.str x,.str p,enc v]))) (fun v=>rb (aR _ (noR n) (a8 r)) fun xs=>_)=_;rw[e1,e2];show R.ok (PyData.str (sS _)::(elI (itW r)).map wD)=R.ok (wD (brI (.word (nmL x) (.word (nmL p) (.sub (itW v) .nil))))::(elI (itW r)).map wD);rw[e];rfl
end Mine
namespace Mine
open PySem
variable {N:List Str} {m:Nat}
theorem uD(n:Nat)(x1:PyData)(w2:V)(o3 o4 o5 o6 o7 o8 o9 o10:Option V)(kn:KN)(kr:KR):stm BB (so "_law_text") n 24 (List.drop 2 (aH BB (so "_law_text"))) (bA (ζ x1) (some w2) o3 o4 o5 o6 o7 o8 o9 o10) kn kr=rb (aB .Add (ofP (rdv (V.clear w2))) (.ok (.fz (.str (so ")"))))) kr:=by kernel_rfl
theorem Ci(n:Nat)(σ:aA)(kn:KN)(kr:KR):stm BB (so "_law_text") n 23 (List.drop 1 (cZ (List.drop 1 (aH BB (so "_law_text"))))) σ kn kr=kn σ:=by kernel_rfl
noncomputable def prE(n:Nat)(d:PyData):R V:=d6 (.ok (.fz (.bool (dW d)))) (rn n "_law_text" [.fz d]) (ofP (eR d))
structure PrP(n:Nat)(p:PyData×List Nat):Prop where
 h:prE n p.1=.ok (.fz (.str (sS p.2)))
theorem Tu(n:Nat)(a:PyData)(kn:KN)(kr:KR):∀ (ps:List (PyData×List Nat)) (T:List Nat) (o9 o10:Option V),(∀ p∈ps,PrP n p)→(T++tw (ps.map (·.2))).length≤aI →
  ∃ o9' o10',aT (rS n) nP (ps.map (·.1)) (bA (ζ a) (ζ (.str (sS T))) none none none none none none o9 o10) kn kr=kn (bA (ζ a) (ζ (.str (sS (T++tw (ps.map (·.2)))))) none none none none none none o9' o10'):=by
 intro ps
 induction ps with
 |nil=>intro T o9 o10 _ _;exact⟨o9,o10,congrArg (fun l=>kn (bA (ζ a) (ζ (.str (sS l))) none none none none none none o9 o10)) (List.append_nil T).symm⟩
 |cons p ps ih =>
  intro T o9 o10 hp hl;have e:T++tw ((p::ps).map (·.2))=(T++32::p.2)++tw (ps.map (·.2)):=by
   show T++32::(p.2++tw (ps.map (·.2)))=_;simp
  rw[e] at hl ⊢;obtain⟨o9',o10',e2⟩:=ih (T++32::p.2) (ζ p.1) (ζ (.str (sS p.2))) (fun q hq=>hp q (List.mem_cons_of_mem _ hq)) hl;refine⟨o9',o10',Eq.trans ?_ e2⟩;simp only[List.length_append,List.length_cons] at hl;show rb (ofP (aS nP p.1 _)) _=_;rw[Pb,aM,aF,Pc,show d6 (.ok (.fz (.bool (dW p.1)))) (rn n "_law_text" [.fz p.1]) (ofP (eR p.1))=.ok (.fz (.str (sS p.2))) from (hp p List.mem_cons_self).h,aF];show rb (aB .Add (aB .Add (.ok (.fz (.str (sS T)))) (.ok (.fz (.str (sS [32]))))) (.ok (.fz (.str (sS p.2))))) _=_;rw[bD (c:=T++[32]) rfl rfl (by simp only[List.length_append,List.length_cons,List.length_nil];lia),bD (c:=T++32::p.2) rfl (by simp) (by simp only[List.length_append,List.length_cons];lia)];rfl
theorem Cj(n:Nat)(a:PyData){i:Int}{x:Str}{T c:List Nat}{b:List Nat}(hb:aB .Mult (.ok (.fz (.str (so " ")))) (aK dX (aV (ofP (cmp .Gt (.int i) (.int 0)))))=.ok (.fz (.str (sS b))))(hc:T++b++nmL x=c)(hl:c.length≤aI)(o7 o8:Option V)(kn:KN)(kr:KR) :
  (rb (ofP (aS iK (.tuple [.int i,.str x]) (bA (ζ a) (ζ (.str (sS T))) none none none none o7 o8 none none))) fun σ=>iJ n σ kn kr)=kn (bA (ζ a) (ζ (.str (sS c))) none none none none (ζ (.int i)) (ζ (.str x)) none none):=by
 rw[O8,aM,aF,O9,hb];show rb (aB .Add (aB .Add (.ok (.fz (.str (sS T)))) (.ok (.fz (.str (sS b))))) (.ok (.fz (.str x)))) _=_;rw[bD (c:=T++b) rfl rfl (by rw[← hc] at hl;simp only[List.length_append] at hl ⊢;lia),f6 (c:=c) rfl hc hl];rfl
theorem Tv(n:Nat)(a:PyData)(kn:KN)(kr:KR):∀ (fs:List Str) (i:Int) (T:List Nat) (o7 o8:Option V),0 < i→(T++tw (fs.map nmL)).length≤aI →
  ∃ o7' o8',aT (iJ n) iK (cD i (fs.map .str)) (bA (ζ a) (ζ (.str (sS T))) none none none none o7 o8 none none) kn kr=kn (bA (ζ a) (ζ (.str (sS (T++tw (fs.map nmL))))) none none none none o7' o8' none none):=by
 intro fs
 induction fs with
 |nil=>intro i T o7 o8 _ _;exact⟨o7,o8,by show kn _=kn _;rw[show T++tw (List.map nmL [])=T from List.append_nil T]⟩
 |cons x fs ih =>
  intro i T o7 o8 hi hl;have e:T++tw ((x::fs).map nmL)=(T++[32]++nmL x)++tw (fs.map nmL):=by
   show T++32::(nmL x++tw (fs.map nmL))=_;simp
  rw[e] at hl ⊢;obtain⟨o7',o8',e2⟩:=ih (i+1) (T++[32]++nmL x) (ζ (.int i)) (ζ (.str x)) (by omega) hl;refine⟨o7',o8',Eq.trans (Cj n a (b:=[32]) ?_ rfl (by rw[List.length_append] at hl;exact Nat.le_trans (Nat.le_add_right _ _) hl) o7 o8 _ kr) e2⟩;show aB .Mult (.ok (.fz (.str (so " ")))) (aK dX (.ok (.fz (.bool (decide (0 < i))))))=_;rw[decide_eq_true hi];kernel_rfl
theorem Tw(n:Nat)(a:PyData)(kn:KN)(kr:KR)(fs:List Str)(T:List Nat)(hl:(T++tw (fs.map nmL)).length≤aI) :
  ∃ o7' o8',aT (iJ n) iK (cD 0 (fs.map .str)) (bA (ζ a) (ζ (.str (sS T))) none none none none none none none none) kn kr=kn (bA (ζ a) (ζ (.str (sS (T++(tw (fs.map nmL)).drop 1)))) none none none none o7' o8' none none):=by
 cases fs with
 |nil=>exact⟨none,none,by show kn _=kn _;rw[show T++(tw (List.map nmL [])).drop 1=T from List.append_nil T]⟩
 |cons x fs =>
  have e:T++(tw ((x::fs).map nmL)).drop 1=(T++[]++nmL x)++tw (fs.map nmL):=by
   show T++(nmL x++tw (fs.map nmL))=_;simp
  rw[e];have hl':(T++32::(nmL x++tw (fs.map nmL))).length≤aI:=hl;simp only[List.length_append,List.length_cons] at hl';obtain⟨o7',o8',e2⟩:=Tv n a kn kr fs 1 (T++[]++nmL x) (ζ (.int 0)) (ζ (.str x)) (by decide) (by simp only[List.length_append,List.length_nil];lia);exact⟨o7',o8',Eq.trans (Cj n a (b:=[]) (by kernel_rfl) rfl (by simp only[List.length_append,List.length_nil];lia) none none _ kr) e2⟩
noncomputable def TxA(w:WW):Prop:=∀ n,2*w.hgt+2≤n→(brI (itW w)).length≤aI→rn n "_law_text" [.fz (enc w)]=.ok (.fz (.str (sS (brI (itW w)))))
noncomputable def TxB(w:WW):Prop:=∀ (n:Nat) (a:PyData) (T:List Nat) (o3 o4 o5 o6:Option V) (kn:KN) (kr:KR),2*w.hgt+2≤n→(T++tlI (itW w)).length≤aI→∃ o3' o4' o5' o6',
 aT (nO n) kI (a8 w) (bA (ζ a) (ζ (.str (sS T))) o3 o4 o5 o6 none none none none) kn kr=kn (bA (ζ a) (ζ (.str (sS (T++tlI (itW w))))) o3' o4' o5' o6' none none none none)
structure TxS(w:WW):Prop where
 a:w.isRows=false→TxA w
 b:w.isRows=true→TxB w
theorem jA(n:Nat){a:PyData}{k:String}{ps:List (PyData×List Nat)}(h0:getItem a (.int 0)=.ok (.fz (.str (so k))))(hk:(so k==so "beside")=false∧(so k==so "join")=false)(hs:plI (aX (.ok a) (some (.ok (.fz (.int 1)))) none)=.ok (ps.map (·.1)))(hp:∀ p∈ps,PrP n p)(hl:(40::((tw (kw k::ps.map (·.2))).drop 1++[41])).length≤aI) :
  rn (n+1) "_law_text" [.fz a]=.ok (.fz (.str (sS (40::((tw (kw k::ps.map (·.2))).drop 1++[41]))))):=by
 have e:40::((tw (kw k::ps.map (·.2))).drop 1++[41])=(40::kw k)++tw (ps.map (·.2))++[41]:=by
  show 40::((kw k++tw (ps.map (·.2)))++[41])=_;simp
 rw[e] at hl ⊢;simp only[List.length_append,List.length_cons,List.length_nil] at hl;have b1:aD (.ok (.fz (.str (so k)))) .Eq (.ok (.fz (.str (so "beside"))))=.ok (.fz (.bool false)):=by
  show R.ok (V.fz (.bool (so k==so "beside")))=_;rw[hk.1]
 have b2:aD (.ok (.fz (.str (so k)))) .Eq (.ok (.fz (.str (so "join"))))=.ok (.fz (.bool false)):=by
  show R.ok (V.fz (.bool (so k==so "join")))=_;rw[hk.2]
 rw[rU,h0,aM,show aB .Add (.ok (.fz (.str (so "(")))) (.ok (.fz (.str (so k))))=.ok (.fz (.str (sS (40::kw k)))) from bD (a:=[40]) (b:=kw k) rfl rfl (by simp only[List.length_cons];lia),aF,b1,kW,b2,kW,hs,aF];obtain⟨o9,o10,e3⟩:=Tu n a (fun σ=>rT n σ (fun σ=>stm BB (so "_law_text") n 23 (List.drop 1 (cZ (List.drop 1 (aH BB (so "_law_text"))))) σ (fun σ=>stm BB (so "_law_text") n 24 (List.drop 2 (aH BB (so "_law_text"))) σ (fun _=>R.ok (.fz .none)) R.ok) R.ok) R.ok) R.ok ps (40::kw k) none none hp (by simp only[List.length_append,List.length_cons];lia);refine Eq.trans e3 ?_;rw[Pd,Ci,uD];show rb (aB .Add (.ok (.fz (.str (sS (40::kw k++tw (ps.map (·.2))))))) (.ok (.fz (.str (sS [41]))))) R.ok=_;rw[bD (c:=(40::kw k)++tw (ps.map (·.2))++[41]) rfl rfl (by simp only[List.length_append,List.length_cons,List.length_nil];lia)];rfl
theorem oM(n:Nat)(x:Str):PrP n (.str x,nmL x):=⟨by
 show ofP (fz (.str x))=_;rw[show sS (nmL x)=x from gR x];rfl⟩
theorem Tx(n:Nat){l:Int}(h:l.natAbs < 10 ^ 30):PrP n (.int l,cF l):=⟨by
 show ofP (eR (.int l))=_;rw[Cf h];rfl⟩
theorem uE(n:Nat){w:WW}(hr:w.isRows=false)(h:rn n "_law_text" [.fz (enc w)]=.ok (.fz (.str (sS (brI (itW w)))))):PrP n (enc w,brI (itW w)):=⟨by
 have:dW (enc w)=true:=by cases w<;>first | rfl | cases hr
 unfold prE;rw[this];exact h⟩
theorem Ty(H:Wld N):∀ {w:WW},okW N w→TxS w:=by
 intro w
 induction w with
 |whole=>exact fun _=>⟨fun _ n hn hl=>exnE (c:=1) n hn hn fun n _=>jA n (ps:=[]) rfl ⟨by decide,by decide⟩ rfl (fun p hp=>bT hp) hl,fun h=>bft h⟩
 |pick x=>exact fun _=>⟨fun _ n hn hl=>exnE (c:=1) n hn hn fun n _=>jA n (ps:=[(.str x,nmL x)]) rfl ⟨by decide,by decide⟩ rfl (fun p hp=>by rw[List.mem_singleton.mp hp];exact oM n x) hl,fun h=>bft h⟩
 |call a b=>exact fun _=>⟨fun _ n hn hl=>exnE (c:=1) n hn hn fun n _=>jA n (ps:=[(.str a,nmL a),(.str b,nmL b)]) rfl ⟨by decide,by decide⟩ rfl (fun p hp=>by
   simp only[List.mem_cons,List.not_mem_nil,or_false] at hp;rcases hp with rfl | rfl
   ·exact oM n a
   ·exact oM n b) hl,fun h=>bft h⟩
 |sift f l=>exact fun h=>⟨fun _ n hn hl=>exnE (c:=1) n hn hn fun n _=>jA n (ps:=[(.str f,nmL f),(.int l,cF l)]) rfl ⟨by decide,by decide⟩ rfl (fun p hp=>by
   simp only[List.mem_cons,List.not_mem_nil,or_false] at hp;rcases hp with rfl | rfl
   ·exact oM n f
   ·exact Tx n h.2) hl,fun h=>bft h⟩
 |join a b fs =>
  intro h;refine⟨fun _ n hn hl=>exnE (c:=1) n hn hn fun n _=>?_,fun h=>bft h⟩;have e:brI (itW (.join a b fs))=(kw "(join" ++ (32::(nmL a++32::(nmL b++[32,40]))))++(tw (fs.map nmL)).drop 1++[41]++[41]:=by
   show 40::(kw "join" ++ (32::(nmL a++(32::(nmL b++(32::40::((tlI (fsI fs)).drop 1++41::[]))))))++[41])=_;rw[i7,Ch,show kw "(join" = 40::kw "join" from rfl];simp
  rw[e] at hl ⊢;have hk:(kw "(join").length=5:=rfl;simp only[List.length_cons,List.length_append,List.length_nil,List.length_drop,hk] at hl;obtain⟨o7,o8,e3⟩:=Tw n (enc (.join a b fs)) (fun σ=>rR n σ (fun σ=>stm BB (so "_law_text") n 23 (List.drop 1 (cZ (List.drop 1 (aH BB (so "_law_text"))))) σ (fun σ=>stm BB (so "_law_text") n 24 (List.drop 2 (aH BB (so "_law_text"))) σ (fun _=>R.ok (.fz .none)) R.ok) R.ok) R.ok) R.ok fs (kw "(join" ++ (32::(nmL a++32::(nmL b++[32,40])))) (by simp only[List.length_cons,List.length_append,List.length_nil,hk];lia);rw[rU];show rb (aB .Add (aB .Add (aB .Add (aB .Add (aB .Add (.ok (.fz (.str (sS (kw "(join"))))) (.ok (.fz (.str (sS [32]))))) (.ok (.fz (.str a)))) (.ok (.fz (.str (sS [32]))))) (.ok (.fz (.str b)))) (.ok (.fz (.str (sS [32,40]))))) (fun v3=>rb (.ok (cD 0 (fs.map .str))) fun l4=>aT (iJ n) iK l4 (bA (ζ (enc (.join a b fs))) (some v3) none none none none none none none none) _ _)=_;rw[bD (c:=kw "(join" ++ [32]) rfl rfl (by decide),f6 (c:=kw "(join" ++ 32::nmL a) rfl (by simp) (by simp only[List.length_cons,List.length_append,hk];lia),bD (c:=kw "(join" ++ 32::(nmL a++[32])) rfl (by simp) (by simp only[List.length_cons,List.length_append,List.length_nil,hk];lia),f6 (c:=kw "(join" ++ 32::(nmL a++32::nmL b)) rfl (by simp) (by simp only[List.length_cons,List.length_append,hk];lia),bD (c:=kw "(join" ++ (32::(nmL a++32::(nmL b++[32,40])))) rfl (by simp) (by simp only[List.length_cons,List.length_append,List.length_nil,hk];lia),aF,aF];refine Eq.trans e3 ?_;rw[Pa];show rb (aB .Add (.ok (.fz (.str (sS _)))) (.ok (.fz (.str (sS [41]))))) _=_;rw[bD (c:=(kw "(join" ++ (32::(nmL a++32::(nmL b++[32,40]))))++(tw (fs.map nmL)).drop 1++[41]) rfl rfl (by simp only[List.length_cons,List.length_append,List.length_nil,List.length_drop,hk];lia),aF,Ci,uD];show rb (aB .Add (.ok (.fz (.str (sS _)))) (.ok (.fz (.str (sS [41]))))) _=_;rw[bD (c:=(kw "(join" ++ (32::(nmL a++32::(nmL b++[32,40]))))++(tw (fs.map nmL)).drop 1++[41]++[41]) rfl rfl (by simp only[List.length_cons,List.length_append,List.length_nil,List.length_drop,hk];lia)];rfl
 |each v ih =>
  intro h;refine⟨fun _ n hn hl=>exnE (c:=1) n hn hn fun n hn=>?_,fun h=>bft h⟩;have hn:2*(v.hgt+1)+2≤n+1:=hn;have e:brI (itW (.each v))=40::((tw (kw "each" :: [brI (itW v)])).drop 1++[41]):=i9 _;rw[e] at hl ⊢;have hb:(brI (itW v)).length≤aI:=by
   have:=i8 (s:=brI (itW v)) (ws:=kw "each" :: [brI (itW v)]) (by simp);simp only[List.length_cons,List.length_append,List.length_nil,List.length_drop] at hl;lia
  exact jA n (ps:=[(enc v,brI (itW v))]) rfl ⟨by decide,by decide⟩ rfl (fun p hp=>by rw[List.mem_singleton.mp hp];exact uE n h.2 ((ih h.1).a h.2 n (by lia) hb)) hl
 |andThen a b iha ihb =>
  intro h;refine⟨fun _ n hn hl=>exnE (c:=1) n hn hn fun n hn=>?_,fun h=>bft h⟩;have hn:2*(max a.hgt b.hgt+1)+2≤n+1:=hn;have e:brI (itW (.andThen a b))=40::((tw (kw "then" :: [brI (itW a),brI (itW b)])).drop 1++[41]):=i9 _;rw[e] at hl ⊢;have hb:(brI (itW a)).length≤aI∧(brI (itW b)).length≤aI:=by
   have:=i8 (s:=brI (itW a)) (ws:=kw "then" :: [brI (itW a),brI (itW b)]) (by simp);have:=i8 (s:=brI (itW b)) (ws:=kw "then" :: [brI (itW a),brI (itW b)]) (by simp);simp only[List.length_cons,List.length_append,List.length_nil,List.length_drop] at hl;constructor<;>lia
  exact jA n (ps:=[(enc a,brI (itW a)),(enc b,brI (itW b))]) rfl ⟨by decide,by decide⟩ rfl (fun p hp=>by
   simp only[List.mem_cons,List.not_mem_nil,or_false] at hp;rcases hp with rfl | rfl
   ·exact uE n h.1.2 ((iha h.1.1).a h.1.2 n (by lia) hb.1)
   ·exact uE n h.2.2 ((ihb h.2.1).a h.2.2 n (by lia) hb.2)) hl
 |beside r ih =>
  intro h;refine⟨fun _ n hn hl=>exnE (c:=1) n hn hn fun n hn=>?_,fun h=>bft h⟩;have hn:2*(r.hgt+1)+2≤n+1:=hn;have e:brI (itW (.beside r))=kw "(beside" ++ tlI (itW r)++[41]:=rfl;rw[e] at hl ⊢;have hk:(kw "(beside").length=7:=rfl;simp only[List.length_cons,List.length_append,List.length_nil,hk] at hl;obtain⟨o3,o4,o5,o6,e3⟩:=(ih h.1.1).b h.1.2 n (enc (.beside r)) (kw "(beside") none none none none (fun σ=>rQ n σ (fun σ=>stm BB (so "_law_text") n 24 (List.drop 2 (aH BB (so "_law_text"))) σ (fun _=>R.ok (.fz .none)) R.ok) R.ok) R.ok (by lia) (by simp only[List.length_append,hk];lia);rw[rU];show rb (plI (.ok (.fz (enc r)))) (fun l2=>aT (nO n) kI l2 (bA (ζ (enc (.beside r))) (some (.fz (.str (sS (kw "(beside"))))) none none none none none none none none) _ _)=_;rw[gN h.1.2];refine Eq.trans e3 ?_;rw[O7,uD];show rb (aB .Add (.ok (.fz (.str (sS _)))) (.ok (.fz (.str (sS [41]))))) _=_;rw[bD (c:=kw "(beside" ++ tlI (itW r)++[41]) rfl rfl (by simp only[List.length_cons,List.length_append,List.length_nil,hk];lia)];rfl
 |bnil=>exact fun _=>⟨fun h=>btf h,fun _ n a T o3 o4 o5 o6 kn kr _ _=>⟨o3,o4,o5,o6,by show kn _=kn _;rw[show T++tlI (itW .bnil)=T from List.append_nil T]⟩⟩
 |bcons x p v r ihv ihr =>
  intro h;obtain⟨_,⟨hv,rv⟩,⟨hr,rr⟩,_,_⟩:=h;refine⟨fun h=>btf h,fun _ n a T o3 o4 o5 o6 kn kr hn hl=>?_⟩;have hn':2*max v.hgt r.hgt+2≤n:=hn;have e:T++tlI (itW (.bcons x p v r))=(T++([32,40]++(nmL x++32::(nmL p++32::brI (itW v)))++[41]))++tlI (itW r):=by
   show T++(32::40::((nmL x++(32::(nmL p++(32::40::((tlI (itW v)).drop 1++41::[])))))++41::tlI (itW r)))=_;unfold brI;simp
  rw[e] at hl ⊢;simp only[List.length_cons,List.length_append,List.length_nil] at hl;obtain⟨o3',o4',o5',o6',e3⟩:=(ihr hr).b rr n a (T++([32,40]++(nmL x++32::(nmL p++32::brI (itW v)))++[41])) (ζ (.str x)) (ζ (.str p)) (ζ (enc v)) (ζ (.str (sS (nmL x++32::(nmL p++32::brI (itW v)))))) kn kr (by lia) (by simp only[List.length_cons,List.length_append,List.length_nil];lia);refine⟨o3',o4',o5',o6',Eq.trans ?_ e3⟩;show rb (ofP (aS kI (.tuple [.str x,.str p,enc v]) _)) _=_;rw[O5,aM,aF,O6,(ihv hv).a rv n (by lia) (by lia)];show rb (aB .Add (aB .Add (aB .Add (aB .Add (.ok (.fz (.str x))) (.ok (.fz (.str (sS [32]))))) (.ok (.fz (.str p)))) (.ok (.fz (.str (sS [32]))))) (.ok (.fz (.str (sS (brI (itW v))))))) _=_;rw[bD (r:=.ok (.fz (.str x))) (a:=nmL x) (b:=[32]) (c:=nmL x++[32]) (by rw[show sS (nmL x)=x from gR x]) rfl (by simp only[List.length_cons,List.length_append,List.length_nil];lia),f6 (c:=nmL x++32::nmL p) rfl (by simp) (by simp only[List.length_cons,List.length_append];lia),bD (c:=nmL x++32::(nmL p++[32])) rfl (by simp) (by simp only[List.length_cons,List.length_append,List.length_nil];lia),bD (c:=nmL x++32::(nmL p++32::brI (itW v))) rfl (by simp) (by simp only[List.length_cons,List.length_append];lia),aF];show rb (aB .Add (aB .Add (aB .Add (.ok (.fz (.str (sS T)))) (.ok (.fz (.str (sS [32,40]))))) (.ok (.fz (.str (sS (nmL x++32::(nmL p++32::brI (itW v)))))))) (.ok (.fz (.str (sS [41]))))) _=_;rw[bD (c:=T++[32,40]) rfl rfl (by simp only[List.length_cons,List.length_append,List.length_nil];lia),bD (c:=T++([32,40]++(nmL x++32::(nmL p++32::brI (itW v))))) rfl (by simp) (by simp only[List.length_cons,List.length_append,List.length_nil];lia),bD (c:=T++([32,40]++(nmL x++32::(nmL p++32::brI (itW v)))++[41])) rfl (by simp) (by simp only[List.length_cons,List.length_append,List.length_nil];lia)];rfl
end Mine
namespace Mine
open PySem
variable {N:List Str} {m:Nat}
structure Alk(n:Nat)(d:PyData):Prop where
 h:rn n "_law_alike" [.fz d,.fz d]=.ok (.fz (.bool true))
theorem Tz{l:List PyData}{d:PyData}(h:d∈dD l l):∃ x,x∈l∧d=.tuple [x,x]:=by
 induction l with
 |nil=>exact bT h
 |cons x l ih =>
  rcases List.mem_cons.mp (show d∈.tuple [x,x]::dD l l from h) with rfl | h
  ·exact⟨x,List.mem_cons_self,rfl⟩
  ·obtain⟨y,hy,e⟩:=ih h;exact⟨y,List.mem_cons_of_mem _ hy,e⟩
theorem eE{n:Nat}{l:List PyData}(h:∀ d∈l,Alk n d):Alk (n+1) (.tuple l):=⟨by
 rw[rV];have e1:aD (ofP (aU (.tuple l))) .NotEq (ofP (aU (.tuple l)))=.ok (.fz (.bool false)):=by
  show R.ok (V.fz (.bool (!((l.length:Int)==(l.length:Int)))))=_;rw[beq_self_eq_true];rfl
 rw[show dW (.tuple l)=true from rfl,B8,e1,show orS (unS .Not (.ok (.fz (.bool true)))) (.ok (.fz (.bool false)))=.ok (.fz (.bool false)) from rfl,kW,show zpI [.ok (.fz (.tuple l)),.ok (.fz (.tuple l))]=.ok (dD l l) from rfl,kS,iQ (g:=fun _=>.bool true) fun d hd=>by
  obtain⟨x,hx,rfl⟩:=Tz hd;exact⟨rfl,_,(h x hx).h,rfl⟩]
 show rb (ofP (bS (.list ((dD l l).map fun _=>.bool true)))) R.ok=_;rw[show(dD l l).map (fun _=>PyData.bool true)=((dD l l).map fun _=>true).map .bool from by rw[List.map_map];rfl,tB,List.all_eq_true.mpr fun b hb=>by
  obtain⟨_,_,rfl⟩:=List.mem_map.mp hb;rfl];rfl⟩
theorem dA(n:Nat)(x:Str):Alk (n+1) (.str x):=⟨by
 rw[rV];show R.ok (V.fz (.bool (x==x)))=_;rw[beq_self_eq_true]⟩
theorem T0(n:Nat)(i:Int):Alk (n+1) (.int i):=⟨by
 rw[rV];show R.ok (V.fz (.bool (i==i)))=_;rw[beq_self_eq_true]⟩
structure AlkS(w:WW):Prop where
 a:w.isRows=false→∀ n,3*w.hgt+3≤n→Alk n (enc w)
 b:w.isRows=true→∀ n,3*w.hgt+4≤n→∀ d∈a8 w,Alk n d
theorem T3:∀ {w:WW},okW N w→AlkS w:=by
 intro w
 induction w with
 |whole=>exact fun _=>⟨fun _ n hn=>exnE (c:=2) n hn hn fun n _=>eE fun d hd=>by rw[List.mem_singleton.mp hd];exact dA n _,fun h=>bft h⟩
 |pick x=>exact fun _=>⟨fun _ n hn=>exnE (c:=2) n hn hn fun n _=>eE fun d hd=>by
   simp only[List.mem_cons,List.not_mem_nil,or_false] at hd;rcases hd with rfl | rfl<;>exact dA n _,fun h=>bft h⟩
 |call a b=>exact fun _=>⟨fun _ n hn=>exnE (c:=2) n hn hn fun n _=>eE fun d hd=>by
   simp only[List.mem_cons,List.not_mem_nil,or_false] at hd;rcases hd with rfl | rfl | rfl<;>exact dA n _,fun h=>bft h⟩
 |sift f l=>exact fun _=>⟨fun _ n hn=>exnE (c:=2) n hn hn fun n _=>eE fun d hd=>by
   simp only[List.mem_cons,List.not_mem_nil,or_false] at hd;rcases hd with rfl | rfl | rfl
   ·exact dA n _
   ·exact dA n _
   ·exact T0 n _,fun h=>bft h⟩
 |join a b fs=>exact fun _=>⟨fun _ n hn=>exnE (c:=3) n hn hn fun n _=>eE fun d hd=>by
   simp only[List.mem_cons,List.not_mem_nil,or_false] at hd;rcases hd with rfl | rfl | rfl | rfl
   ·exact dA _ _
   ·exact dA _ _
   ·exact dA _ _
   ·exact eE fun d hd=>by
     obtain⟨x,_,rfl⟩:=List.mem_map.mp hd;exact dA n x,fun h=>bft h⟩
 |each v ih =>
  intro h;refine⟨fun _ n hn=>?_,fun h=>bft h⟩;have hn':3*(v.hgt+1)+3≤n:=hn;refine exnE (c:=2) n hn' hn' fun n hn'=>eE fun d hd=>?_;simp only[List.mem_cons,List.not_mem_nil,or_false] at hd;rcases hd with rfl | rfl
  ·exact dA _ _
  ·exact(ih h.1).a h.2 (n+1) (by lia)
 |andThen a b iha ihb =>
  intro h;refine⟨fun _ n hn=>?_,fun h=>bft h⟩;have hn':3*(max a.hgt b.hgt+1)+3≤n:=hn;refine exnE (c:=2) n hn' hn' fun n hn'=>eE fun d hd=>?_;simp only[List.mem_cons,List.not_mem_nil,or_false] at hd;rcases hd with rfl | rfl | rfl
  ·exact dA _ _
  ·exact(iha h.1.1).a h.1.2 (n+1) (by lia)
  ·exact(ihb h.2.1).a h.2.2 (n+1) (by lia)
 |beside r ih =>
  intro h;refine⟨fun _ n hn=>?_,fun h=>bft h⟩;have hn':3*(r.hgt+1)+3≤n:=hn;refine exnE (c:=2) n hn' hn' fun n hn'=>eE fun d hd=>?_;simp only[List.mem_cons,List.not_mem_nil,or_false] at hd;rcases hd with rfl | rfl
  ·exact dA _ _
  ·rw[gN h.1.2];exact eE fun d hd=>(ih h.1.1).b h.1.2 n (by lia) d hd
 |bnil=>exact fun _=>⟨fun h=>btf h,fun _ n _ d hd=>bT hd⟩
 |bcons x p v r ihv ihr =>
  intro h;obtain⟨_,⟨hv,rv⟩,⟨hr,rr⟩,_,_⟩:=h;refine⟨fun h=>btf h,fun _ n hn d hd=>?_⟩;have hn':3*max v.hgt r.hgt+4≤n:=hn;rcases List.mem_cons.mp (show d∈.tuple [.str x,.str p,enc v]::a8 r from hd) with rfl | hd
  ·refine exnE (c:=2) n hn' hn' fun n hn'=>eE fun d hd=>?_;simp only[List.mem_cons,List.not_mem_nil,or_false] at hd;rcases hd with rfl | rfl | rfl
   ·exact dA _ _
   ·exact dA _ _
   ·exact(ihv hv).a rv (n+1) (by lia)
  ·exact(ihr hr).b rr n (by lia) d hd
theorem fE(H:Wld N){x:Str}(hx:x∈N):(nmL x).length≤8:=by
 rw[show(nmL x).length=x.cps.size from Array.length_toList];exact(H.ok x hx).hi
theorem T5{l:Int}(h:l.natAbs < 10 ^ 30):(cF l).length≤31:=by
 rcases uC h with ⟨k,_,s,f⟩ | ⟨k,_,_,s,f⟩
 ·rw[s];have:=f.u;omega
 ·rw[s,List.length_cons];have:=f.u;omega
theorem T6(H:Wld N){fs:List Str}(h:∀ f∈fs,f∈N):(tlI (fsI fs)).length≤9*fs.length:=by
 induction fs with
 |nil=>exact Nat.le_refl _
 |cons x r ih =>
  show(32::(nmL x++tlI (fsI r))).length≤9*(r.length+1);have:=fE H (h x List.mem_cons_self);have:=ih fun f hf=>h f (List.mem_cons_of_mem _ hf);rw[List.length_cons,List.length_append];lia
structure GrwS(w:WW):Prop where
 a:w.isRows=false→1≤w.grow
 b:w.isRows=true→w.names.length≤w.grow
theorem uF:∀ {w:WW},okW N w→GrwS w:=by
 intro w
 induction w with
 |each v ih=>exact fun h=>⟨fun _=>(ih h.1).a h.2,fun h=>bft h⟩
 |andThen a b iha _=>exact fun h=>⟨fun _=>Nat.le_trans ((iha h.1.1).a h.1.2) (Nat.le_add_right _ _),fun h=>bft h⟩
 |beside r ih=>exact fun h=>⟨fun _=>Nat.le_trans h.2.1 ((ih h.1.1).b h.1.2),fun h=>bft h⟩
 |bnil=>exact fun _=>⟨fun h=>btf h,fun _=>Nat.le_refl _⟩
 |bcons x p v r ihv ihr =>
  intro h;obtain⟨_,⟨hv,rv⟩,⟨hr,rr⟩,_,_⟩:=h;refine⟨fun h=>btf h,fun _=>?_⟩;show r.names.length+1≤v.grow+r.grow;have:=(ihv hv).a rv;have:=(ihr hr).b rr;lia
 |_=>exact fun _=>⟨fun _=>Nat.le_refl _,fun h=>bft h⟩
theorem jB{h:It}(h0:h.cnt≠0)(r:It):(tlI (.sub h r)).length=(tlI h).length+2+(tlI r).length:=by
 have:1≤(tlI h).length:=by
  cases h with
  |nil=>exact absurd rfl h0
  |word=>exact Nat.succ_le_succ (Nat.zero_le _)
  |sub=>exact Nat.succ_le_succ (Nat.zero_le _)
 show(32::40::((tlI h).drop 1++41::tlI r)).length=_;rw[List.length_cons,List.length_cons,List.length_append,List.length_cons,List.length_drop];lia
theorem cP(s:List Nat)(r:It):(tlI (.word s r)).length=s.length+1+(tlI r).length:=by
 show(32::(s++tlI r)).length=_;rw[List.length_cons,List.length_append];lia
structure LenS(w:WW):Prop where
 a:w.isRows=false→∀ c,120*(w.hgt+1)≤c→(tlI (itW w)).length≤c*w.grow
 b:w.isRows=true→∀ c,120*(w.hgt+1)≤c→(tlI (itW w)).length≤c*w.grow+22*w.names.length
theorem lx0{a c:Nat}(h:120*(a+1+1)≤c):∃ c',c=c'+120:=⟨c - 120,by omega⟩
theorem lx1{a c:Nat}(h:120*(a+1+1)≤c+120):120*(a+1)≤c:=by omega
theorem lx2{a b c:Nat}(h:120*(max a b+1)≤c):120*(a+1)≤c:=by omega
theorem lx3{a b c:Nat}(h:120*(max a b+1)≤c):120*(b+1)≤c:=by omega
theorem T7(H:Wld N):∀ {w:WW},okW N w→LenS w:=by
 intro w;have z:(tlI .nil).length=0:=rfl
 induction w with
 |whole=>exact fun _=>⟨fun _ c hc=>by
   have hc:120*1≤c:=hc;show 6≤c*1;lia,fun h=>bft h⟩
 |pick x =>
  intro h;refine⟨fun _ c hc=>?_,fun h=>bft h⟩;have hc:120*1≤c:=hc;have:=fE H h;show(tlI (.word (kw "pick") (.word (nmL x) .nil))).length≤c*1;rw[cP,cP,z,show(kw "pick").length=4 from rfl];lia
 |call a b =>
  intro h;refine⟨fun _ c hc=>?_,fun h=>bft h⟩;have hc:120*1≤c:=hc;have:=fE H h.1;have:=fE H h.2.1;show(tlI (.word (kw "call") (.word (nmL a) (.word (nmL b) .nil)))).length≤c*1;rw[cP,cP,cP,z,show(kw "call").length=4 from rfl];lia
 |sift f l =>
  intro h;refine⟨fun _ c hc=>?_,fun h=>bft h⟩;have hc:120*1≤c:=hc;have:=fE H h.1;have:=T5 h.2;show(tlI (.word (kw "sift") (.word (nmL f) (.word (cF l) .nil)))).length≤c*1;rw[cP,cP,cP,z,show(kw "sift").length=4 from rfl];lia
 |join a b fs =>
  intro h;obtain⟨⟨h1,h2,_⟩,⟨h3,h4⟩,_,h5⟩:=h;refine⟨fun _ c hc=>?_,fun h=>bft h⟩;have hc:120*1≤c:=hc;have:=fE H h1;have:=fE H h2;have:=T6 H h5;show(tlI (.word (kw "join") (.word (nmL a) (.word (nmL b) (.sub (fsI fs) .nil))))).length≤c*1;rw[cP,cP,cP,jB (by rw[Cd];clear hc;first | lia | omega),z,show(kw "join").length=4 from rfl];lia
 |each v ih =>
  intro h;refine⟨fun _ c hc=>?_,fun h=>bft h⟩;have hc:120*(v.hgt+1+1)≤c:=hc;obtain⟨c',rfl⟩:=lx0 hc;have i:=(ih h.1).a h.2 c' (lx1 hc);have g:=(uF h.1).a h.2;have lo:=((gT H h.1).v h.2).lo;show(tlI (.word (kw "each") (.sub (itW v) .nil))).length≤(c'+120)*v.grow;rw[cP,jB (Nat.ne_of_gt lo),z,show(kw "each").length=4 from rfl,Nat.add_mul];clear hc;first | lia | omega
 |andThen a b iha ihb =>
  intro h;refine⟨fun _ c hc=>?_,fun h=>bft h⟩;have hc:120*(max a.hgt b.hgt+1+1)≤c:=hc;obtain⟨c',rfl⟩:=lx0 hc;have i:=(iha h.1.1).a h.1.2 c' (lx2 (lx1 hc));have j:=(ihb h.2.1).a h.2.2 c' (lx3 (lx1 hc));have g:=(uF h.1.1).a h.1.2;have lo:=((gT H h.1.1).v h.1.2).lo;have lo':=((gT H h.2.1).v h.2.2).lo;show(tlI (.word (kw "then") (.sub (itW a) (.sub (itW b) .nil)))).length≤(c'+120)*(a.grow+b.grow);rw[cP,jB (Nat.ne_of_gt lo),jB (Nat.ne_of_gt lo'),z,show(kw "then").length=4 from rfl,Nat.add_mul,Nat.mul_add];clear hc;first | lia | omega
 |beside r ih =>
  intro h;refine⟨fun _ c hc=>?_,fun h=>bft h⟩;have hc:120*(r.hgt+1+1)≤c:=hc;obtain⟨c',rfl⟩:=lx0 hc;have i:=(ih h.1.1).b h.1.2 c' (lx1 hc);have g:=(uF h.1.1).b h.1.2;have h1:=h.2.1;show(tlI (.word (kw "beside") (itW r))).length≤(c'+120)*r.grow;rw[cP,show(kw "beside").length=6 from rfl,Nat.add_mul];clear hc;first | lia | omega
 |bnil=>exact fun _=>⟨fun h=>btf h,fun _ c _=>Nat.zero_le _⟩
 |bcons x p v r ihv ihr =>
  intro h;obtain⟨⟨h1,h2⟩,⟨hv,rv⟩,⟨hr,rr⟩,_,_⟩:=h;refine⟨fun h=>btf h,fun _ c hc=>?_⟩;have hc:120*(max v.hgt r.hgt+1)≤c:=hc;have i:=(ihv hv).a rv c (lx2 hc);have j:=(ihr hr).b rr c (lx3 hc);have:=fE H h1;have:=fE H h2;have lo:=((gT H hv).v rv).lo;show(tlI (.sub (.word (nmL x) (.word (nmL p) (.sub (itW v) .nil))) (itW r))).length≤c*(v.grow+r.grow)+22*(r.names.length+1);rw[jB (by show 3≠0;decide),cP,cP,jB (Nat.ne_of_gt lo),z,Nat.mul_add];clear hc;first | lia | omega
end Mine
namespace Mine
open PySem
variable {N:List Str} {m:Nat}
inductive SftR(x:Str)(r:R V):Prop where
 |mk (l:Int) (h:l.natAbs < 10 ^ 30) (e:r=.ok (.fz (enc (.sift x l)))):SftR x r
theorem T8(n:Nat)(c:Int)(x:Str):SftR x (rn (n+1) "_law_sifting" [.fz (.int c),.fz (.str x)]):=by
 rw[Pe,show aC .FloorDiv (.int c) (.int 4)=.ok (.fz (.int (c.fdiv 4))) from iX _ (by decide),show aC .Mod (.int c) (.int 4)=.ok (.fz (.int (c.fmod 4))) from eP _ (by decide)];simp only[aM,aF,cB,cO];have r4:=aP c (n:=4) (by decide);have r2:=aP (c.fdiv 4) (n:=2001) (by decide);have r7:=aP (c.fdiv 4) (n:=7) (by decide);rw[show cS [(aB .Sub (aB .Mod (.ok (.fz (.int (c.fdiv 4)))) (.ok (.fz (.int 2001)))) (.ok (.fz (.int 1000)))),(aB .Sub (aB .Sub (ofP (aC .Pow (.int 10) (.int 30))) (.ok (.fz (.int 1)))) (aB .Mod (.ok (.fz (.int (c.fdiv 4)))) (.ok (.fz (.int 7))))),(aB .Add (aB .Sub (aB .Mod (.ok (.fz (.int (c.fdiv 4)))) (.ok (.fz (.int 7)))) (ofP (aC .Pow (.int 10) (.int 30)))) (.ok (.fz (.int 1)))),(.ok (.fz (.int 0)))]=.ok (.own (.list [.int ((c.fdiv 4).fmod 2001 - 1000),.int (10 ^ 30 - 1 - (c.fdiv 4).fmod 7),.int ((c.fdiv 4).fmod 7 - 10 ^ 30+1),.int 0])) from by kernel_rfl];rcases(show c.fmod 4=0∨c.fmod 4=1∨c.fmod 4=2∨c.fmod 4=3 by lia) with h | h | h | h<;>rw[h]
 ·exact⟨(c.fdiv 4).fmod 2001 - 1000,by omega,rfl⟩
 ·exact⟨10 ^ 30 - 1 - (c.fdiv 4).fmod 7,by omega,rfl⟩
 ·exact⟨(c.fdiv 4).fmod 7 - 10 ^ 30+1,by omega,rfl⟩
 ·exact⟨0,by decide,rfl⟩
theorem uG(H:Wld N){i j:Int}{x y:Str}(h0:0≤i)(h1:0≤j)(hx:N[i.toNat]?=some x)(hy:N[j.toNat]?=some y)(h:i≠j):x≠y:=fun e=>by
 obtain⟨p1,p2⟩:=List.getElem?_eq_some_iff.mp hx;obtain⟨q1,q2⟩:=List.getElem?_eq_some_iff.mp hy;have:=(List.getElem_inj (h₀:=p1) (h₁:=q1) H.nd).mp (p2.trans (e.trans q2.symm));exact h (by omega)
inductive FldR(N:List Str)(e:PyData→R V)(q:Int)(i:Int)(p:Nat):Prop where
 |mk (ys:List Str) (h:aR (fun _=>.ok true) e (bX i p)=.ok (ys.map .str)) (l:ys.length=p) (g:∀ (j:Nat) y,ys[j]?=some y→y∈N∧N[((q+i+j).fmod 14).toNat]?=some y):FldR N e q i p
theorem T9(H:Wld N)(q:Int):∀ (p:Nat) (i:Int),FldR N (fun d=>aJ (.ok (NL N)) (aB .Mod (aB .Add (.ok (.fz (.int q))) (.ok (.fz d))) (.ok (.fz (.int 14))))) q i p:=by
 intro p
 induction p with
 |zero=>exact fun i=>⟨[],rfl,rfl,fun j y h=>by rw[List.getElem?_nil] at h;exact ns h⟩
 |succ p ih =>
  intro i;obtain⟨ys,e,l,h⟩:=ih (i+1);obtain⟨x,h1,h2,h3⟩:=cU H (i:=(q+i).fmod 14) (aP _ (by decide));refine⟨x::ys,?_,congrArg Nat.succ l,fun j y hy=>?_⟩
  ·show rb (nx (ofP (getItem (NL N) (.int ((q+i).fmod 14))))) (fun v=>rb (aR _ _ (bX (i+1) p)) fun xs=>.ok (dOf v::xs))=_;rw[h3,e];rfl
  ·cases j with
   |zero =>
    obtain rfl:=si hy;exact⟨h1,by rw[show q+i+((0:Nat):Int)=q+i from Int.add_zero _];exact h2⟩
   |succ j =>
    obtain⟨k1,k2⟩:=h j y hy;exact⟨k1,by rw[show q+i+((j+1:Nat):Int)=q+(i+1)+(j:Int) from by lia];exact k2⟩
theorem Ua(H:Wld N)(n:Nat)(c:Int){w:WW}(ho:okW N w)(hr:w.isRows=false){h g:Nat}(hh:w.hgt≤h)(hg:w.grow≤g):IsV N (h+2) (g+1) (rn (n+2) "_law_wider" [.fz (enc w),.fz (.int c),.fz (NL N)]):=by
 rw[Pf];have at14:∀ (a:Int),∃ x,x∈N∧N[(a.fmod 14).toNat]?=some x∧aJ (.ok (NL N)) (aB .Mod (.ok (.fz (.int a))) (.ok (.fz (.int 14))))=.ok (.fz (.str x)):=fun a=>by
  obtain⟨x,h1,h2,h3⟩:=cU H (i:=a.fmod 14) (aP _ (by decide));exact⟨x,h1,h2,congrArg ofP h3⟩
 have dv:∀ k:Int,k≠0∧k.natAbs < 2 ^ 63→aC .FloorDiv (.int c) (.int k)=.ok (.fz (.int (c.fdiv k))):=fun k hk=>if_pos hk;have r4:=aP c (n:=4) (by decide);rw[dv 8 (by decide),dv 7 (by decide),dv 112 (by decide),dv 9 (by decide),show aC .Mod (.int c) (.int 4)=.ok (.fz (.int (c.fmod 4))) from eP _ (by decide)];simp only[aM];obtain⟨x7,m7,_,e7⟩:=at14 (c.fdiv 7);obtain⟨l,hl,el⟩:=T8 n (c.fdiv 8) x7;rw[e7,show aG (rn (n+1) "_law_sifting") [.ok (.fz (.int (c.fdiv 8))),.ok (.fz (.str x7))]=.ok (.fz (enc (.sift x7 l))) from el,aF];simp only[cB,cO,aM];have q:∀ p:Int,aD (.ok (.fz (.int (c.fmod 4)))) .Eq (.ok (.fz (.int p)))=.ok (.fz (.bool (c.fmod 4==p))):=fun p=>rfl;have os:okW N (.sift x7 l):=⟨m7,hl⟩
 refine IsV.ite (q 0) (fun _=>?_) fun _=>IsV.ite (q 1) (fun _=>?_) fun _=>IsV.ite (q 2) (fun _=>?_) fun _=>?_
 ·exact⟨.andThen w (.sift x7 l),rfl,⟨⟨ho,hr⟩,os,rfl⟩,rfl,by show max w.hgt 0+1≤h+2;lia,by show w.grow+1≤g+1;lia⟩
 ·exact⟨.each (.andThen (.sift x7 l) w),rfl,⟨⟨⟨os,rfl⟩,ho,hr⟩,rfl⟩,rfl,by show max 0 w.hgt+1+1≤h+2;lia,by show 1+w.grow≤g+1;lia⟩
 ·obtain⟨y1,a1,b1,e1⟩:=at14 (c.fdiv 8);obtain⟨p1,a2,b2,e2⟩:=at14 (c.fdiv 112);obtain⟨y2,a3,b3,e3⟩:=at14 (c.fdiv 8+1);obtain⟨p2,a4,b4,e4⟩:=at14 (c.fdiv 112+3);rw[e1,e2,show aB .Add (.ok (.fz (.int (c.fdiv 8)))) (.ok (.fz (.int 1)))=.ok (.fz (.int (c.fdiv 8+1))) from rfl,e3,show aB .Add (.ok (.fz (.int (c.fdiv 112)))) (.ok (.fz (.int 3)))=.ok (.fz (.int (c.fdiv 112+3))) from rfl,e4,tZ,tZ];have n1:y1≠y2:=uG H (aP _ (by decide)).1 (aP _ (by decide)).1 b1 b3 (by
   have:=oA (a:=c.fdiv 8) (n:=14) (i:=0) (j:=1) (by decide) (by decide) (by decide);simpa using this)
  have n2:p1≠p2:=uG H (aP _ (by decide)).1 (aP _ (by decide)).1 b2 b4 (by
   have:=oA (a:=c.fdiv 112) (n:=14) (i:=0) (j:=3) (by decide) (by decide) (by decide);simpa using this)
  refine⟨.beside (.bcons y1 p1 w (.bcons y2 p2 (.sift x7 l) .bnil)),rfl,⟨⟨⟨⟨a1,a2⟩,⟨ho,hr⟩,⟨⟨⟨a3,a4⟩,⟨os,rfl⟩,⟨trivial,rfl⟩,List.not_mem_nil,List.not_mem_nil⟩,rfl⟩,?_,?_⟩,rfl⟩,by show 1≤2;decide,by show 2≤6;decide⟩,rfl,by show max w.hgt (max 0 0)+1≤h+2;lia,by show w.grow+(1+0)≤g+1;lia⟩
  ·exact fun hm=>n1 (List.mem_singleton.mp hm)
  ·exact fun hm=>n2 (List.mem_singleton.mp hm)
 ·obtain⟨a,a1,b1,e1⟩:=at14 (c.fdiv 9);obtain⟨b,a2,b2,e2⟩:=at14 (c.fdiv 9+5);have r6:=aP (c.fdiv 112) (n:=6) (by decide);obtain⟨fs,e3,lf,gf⟩:=T9 H (c.fdiv 8) (1+(c.fdiv 112).fmod 6).toNat 0;have n1:a≠b:=uG H (aP _ (by decide)).1 (aP _ (by decide)).1 b1 b2 (by
   have:=oA (a:=c.fdiv 9) (n:=14) (i:=0) (j:=5) (by decide) (by decide) (by decide);simpa using this)
  have lf6:1≤fs.length∧fs.length≤6:=by rw[lf];omega
  have nd:fs.Nodup:=t7 (xs:=N) (n:=14) (a:=c.fdiv 8+0) H.nd (by rw[H.len];rfl) (by decide) (by omega) fun j y hy=>(gf j y hy).2;have sub:∀ f∈fs,f∈N:=fun f hf=>by
   obtain⟨j,hj⟩:=List.getElem?_of_mem hf;exact(gf j f hj).1
  have hrg:rgI (aB .Add (.ok (.fz (.int 1))) (aB .Mod (.ok (.fz (.int (c.fdiv 112)))) (.ok (.fz (.int 6)))))=.ok (bX 0 (1+(c.fdiv 112).fmod 6).toNat):=by
   show ofP (if -4096≤1+(c.fdiv 112).fmod 6∧1+(c.fdiv 112).fmod 6≤4096 then P.ok (bX 0 (1+(c.fdiv 112).fmod 6).toNat) else .no)=_;rw[if_pos (by lia)];rfl
  rw[e1,show aB .Add (.ok (.fz (.int (c.fdiv 9)))) (.ok (.fz (.int 5)))=.ok (.fz (.int (c.fdiv 9+5))) from rfl,e2,hrg,kS,e3];exact⟨.andThen (.join a b fs) w,rfl,⟨⟨⟨⟨a1,a2,n1⟩,lf6,nd,sub⟩,rfl⟩,ho,hr⟩,rfl,by show max 0 w.hgt+1≤h+2;lia,by show 1+w.grow≤g+1;lia⟩
end Mine
namespace Mine
open PySem
variable {N:List Str} {m:Nat}
noncomputable def lS(s:List Int)(w2 w3:V)(o4 o5 o6 o7 o8 o9:Option V):aA:=dG (ζ (Li s)) (some w2) (some w3) o4 o5 o6 o7 o8 o9
structure VwG(N:List Str)(h g:Nat)(w:WW):Prop where
 o:okW N w
 r:w.isRows=false
 a:w.hgt≤h
 b:w.grow≤g
theorem Ub(s:List Int)(lo hi:Option Int):slice (s.map PyData.int) lo hi=(slice s lo hi).map .int:=by
 unfold slice;rw[List.length_map,List.map_take,List.map_drop]
theorem Uc(H:Wld N)(s:List Int){w3:V}(o4 o5:PyData)(o8 o9:Option V)(kn:KN)(kr:KR):∀ (cs:List Int) {w2 w6:V} {w:WW} {h g:Nat} (o7:Option V),w2.clear=.fz (NL N)→w6.clear=.fz (enc w)→VwG N h g w →
  ∃ w2' w6' w' o7',(w2'.clear=.fz (NL N)∧w6'.clear=.fz (enc w'))∧VwG N (h+2*cs.length) (g+cs.length) w'∧aT (rX 399) nQ (cs.map .int) (lS s w2 w3 (ζ o4) (ζ o5) (some w6) o7 o8 o9) kn kr=kn (lS s w2' w3 (ζ o4) (ζ o5) (some w6') o7' o8 o9):=by
 intro cs
 induction cs with
 |nil=>exact fun {w2 w6 w h g} o7 h2 h6 hw=>⟨w2,w6,w,o7,⟨h2,h6⟩,hw,rfl⟩
 |cons c cs ih =>
  intro w2 w6 w h g o7 h2 h6 hw;obtain⟨w1,e,a1,a2,a3,a4⟩:=Ua H 397 c hw.o hw.r hw.a hw.b;obtain⟨w2',w6',w',o7',c1,c2,c3⟩:=ih (w2:=.fz (NL N)) (w6:=.fz (enc w1)) (w:=w1) (h:=h+2) (g:=g+1) (ζ (.int c)) rfl rfl ⟨a1,a2,a3,a4⟩;refine⟨w2',w6',w',o7',c1,⟨c2.o,c2.r,?_,?_⟩,Eq.trans ?_ c3⟩
  ·have:=c2.a;rw[List.length_cons];lia
  ·have:=c2.b;rw[List.length_cons];lia
  ·show rb (ofP (aS nQ (.int c) (lS s w2 w3 (ζ o4) (ζ o5) (some w6) o7 o8 o9))) _=_;unfold lS;rw[Pl,aM,aF,Pm,h2,h6];rw[show aG (rn 399 "_law_wider") [bQ (.fz (enc w)),.ok (.fz (.int c)),bQ (.fz (NL N))]=.ok (.fz (enc w1)) from e];rfl
theorem Ud(H:Wld N){w:WW}(hw:VwG N 9 26 w):∃ t:Str,rn 399 "_law_text" [.fz (enc w)]=.ok (.fz (.str t))∧rn 399 "written" [.fz (enc w)]=.ok (.fz (.str t)) ∧
  rn 399 "_law_told" [.fz (.str t)]=.ok (.fz (enc w))∧rn 399 "_law_alike" [.fz (enc w),.fz (enc w)]=.ok (.fz (.bool true)):=by
 obtain⟨ho,hr,ha,hb⟩:=hw;have hl:(brI (itW w)).length≤aI:=by
  have lo:=((gT H ho).v hr).lo;have l1:=(T7 H ho).a hr 1200 (by lia);rw[Bz (by omega)];have:1200*w.grow≤1200*26:=Nat.mul_le_mul_left _ hb;have:aI=16777216:=rfl;lia
 refine⟨sS (brI (itW w)),(Ty H ho).a hr 399 (by lia) hl,?_,?_,((T3 ho).a hr 399 (by lia)).h⟩
 ·rw[Nf,Qt 397 _ ((Ad H ho).1 hr 397 (by lia)),aF,(Tt H ho).a hr 398 (by lia) hl];rfl
 ·rw[Pg,Tc H ho hr (n:=397) (by lia)];rfl
theorem Ue(c:Int):∃ cs:List Int,cs.length≤2∧plI (aX (d8 (cS [.ok (.fz (.int c)),ofP (aC .FloorDiv (.int c) (.int 64))])) none (some (ofP (aC .Mod (.int c) (.int 3)))))=.ok (cs.map .int):=by
 have r3:=aP c (n:=3) (by decide);rw[show aC .FloorDiv (.int c) (.int 64)=.ok (.fz (.int (c.fdiv 64))) from iX _ (by decide),show aC .Mod (.int c) (.int 3)=.ok (.fz (.int (c.fmod 3))) from eP _ (by decide)];rcases(show c.fmod 3=0∨c.fmod 3=1∨c.fmod 3=2 by lia) with h | h | h<;>rw[h]
 ·exact⟨[],by decide,rfl⟩
 ·exact⟨[c],Nat.le_succ 1,rfl⟩
 ·exact⟨[c,c.fdiv 64],Nat.le_refl _,rfl⟩
theorem Uf(H:Wld N)(s:List Int){d:PyData}{t:TT}(hd:Sem N 5 d t){w2 w3:V}(h2:w2.clear=.fz (NL N))(h3:w3.clear=.fz d)(k:Nat)(c:Int)(o4 o5 o6 o7 o8 o9:Option V)(kn:KN)(kr:KR) :
  ∃ w2' w3' p4 p5 p6 p7 p8 p9,(w2'.clear=.fz (NL N)∧w3'.clear=.fz d)∧(rb (ofP (aS kK (.tuple [.int k,.int c]) (lS s w2 w3 o4 o5 o6 o7 o8 o9))) fun σ=>kJ 399 σ kn kr)=kn (lS s w2' w3' p4 p5 p6 p7 p8 p9):=by
 obtain⟨w,e1,⟨ow,rw'⟩,⟨hw,gw⟩,s0,hs0⟩:=Sk H 393 s (300+7*k) hd (by decide);obtain⟨cs,hc,e2⟩:=Ue c;obtain⟨w2',w6',w',o7',⟨c1,c2⟩,c3,c4⟩:=Uc H s (w3:=.fz d) (.int k) (.int c) o8 o9 (fun σ=>rY 399 σ kn kr) kr cs (w2:=.fz (NL N)) (w6:=.fz (enc w)) (w:=w) (h:=5) (g:=24) o7 rfl rfl ⟨ow,rw',hw,gw⟩;obtain⟨tx,q1,q2,q3,q4⟩:=Ud H (w:=w') ⟨c3.o,c3.r,by have:=c3.a;lia,by have:=c3.b;lia⟩;refine⟨w2',.fz d,some (.fz (.int k)),some (.fz (.int c)),some (.fz (enc w')),o7',some (.fz (.str tx)),some (.fz (.str tx)),⟨c1,rfl⟩,?_⟩;unfold lS;rw[Pi,aM,aF,Pj,h2,h3];rw[show aG (rn 399 "_law_view") [.ok (.fz (Li s)),aB .Add (.ok (.fz (.int 300))) (ofP (aC .Mult (.int 7) (.int k))),bQ (.fz d),bQ (.fz (NL N))]=.ok (.fz (enc w)) from by
  rw[show aC .Mult (.int 7) (.int k)=.ok (.fz (.int (7*k))) from kT _ (by decide)];exact e1,aF,e2,aF]
 refine Eq.trans c4 ?_;unfold lS;rw[Pn,c2];simp only[cB,dR];rw[show aG (rn 399 "_law_text") [.ok (.fz (enc w'))]=.ok (.fz (.str tx)) from q1,aF,show aG (rn 399 "written") [.ok (.fz (enc w'))]=.ok (.fz (.str tx)) from q2,aF];simp only[cB,dR,cO,aM];rw[show aG (rn 399 "_law_told") [.ok (.fz (.str tx))]=.ok (.fz (enc w')) from q3,show aG (rn 399 "_law_alike") [.ok (.fz (enc w')),.ok (.fz (enc w'))]=.ok (.fz (.bool true)) from q4,show orS (unS .Not (fT (so "str") (.ok (.fz (.str tx))))) (aD (.ok (.fz (.str tx))) .NotEq (.ok (.fz (.str tx))))=.ok (.fz (.bool false)) from by
  show R.ok (V.fz (.bool (!(tx==tx))))=_;rw[beq_self_eq_true];rfl]
 rfl
theorem Ug(H:Wld N)(s:List Int){d:PyData}{t:TT}(hd:Sem N 5 d t)(kn:KN)(kr:KR):∀ (cs:List Int) (k:Nat) {w2 w3:V} (o4 o5 o6 o7 o8 o9:Option V),w2.clear=.fz (NL N)→w3.clear=.fz d →
  ∃ w2' w3' p4 p5 p6 p7 p8 p9,aT (kJ 399) kK (cD k (cs.map .int)) (lS s w2 w3 o4 o5 o6 o7 o8 o9) kn kr=kn (lS s w2' w3' p4 p5 p6 p7 p8 p9):=by
 intro cs
 induction cs with
 |nil=>exact fun k {w2 w3} o4 o5 o6 o7 o8 o9 _ _=>⟨w2,w3,o4,o5,o6,o7,o8,o9,rfl⟩
 |cons c cs ih =>
  intro k w2 w3 o4 o5 o6 o7 o8 o9 h2 h3;obtain⟨w2',w3',p4,p5,p6,p7,p8,p9,⟨c2,c3⟩,e⟩:=Uf H s hd h2 h3 k c o4 o5 o6 o7 o8 o9 (fun σ=>aT (kJ 399) kK (cD (k+1) (cs.map .int)) σ kn kr) kr;obtain⟨x2,x3,q4,q5,q6,q7,q8,q9,e'⟩:=ih (k+1) (w2:=w2') (w3:=w3') p4 p5 p6 p7 p8 p9 c2 c3;exact⟨x2,x3,q4,q5,q6,q7,q8,q9,Eq.trans e e'⟩
theorem Uh(s:List Int):rn 400 "law" [.fz (Li s)]=.ok (.fz (.bool true)):=by
 have H:=Rw (dH s 0);obtain⟨v2,d0,e1,e2,t,e3⟩:=R2 H 395 s;rw[Ph,Rx 397 s,aF,gL,dR,show aG (rn 399 "_law_house") [.ok (.fz (Li s)),.ok (.fz (NL (nms (dH s 0))))]=.ok v2 from e1,aF,
  show enI (aX (.ok (Li s)) (some (.ok (.fz (.int 2)))) (some (.ok (.fz (.int 22)))))=.ok (cD 0 (slice (s.map PyData.int) (some 2) (some 22))) from rfl,Ub,aF]
 obtain⟨w2,w3,o4,o5,o6,o7,o8,o9,e⟩:=Ug H s e3 (fun σ=>rW 399 σ (fun _=>R.ok (.fz .none)) R.ok) R.ok (slice s (some 2) (some 22)) 0 (w2:=.fz (NL (nms (dH s 0)))) (w3:=v2) none none none none none none rfl e2;refine Eq.trans e ?_;unfold lS;rw[Pk]
end Mine
set_option Elab.async false
namespace Mine
open PySem PySem.W PyProof.Rows
set_option maxRecDepth 100000 in
set_option maxHeartbeats 8000000 in
theorem Ui:PySem.Challenge.rw_uf010037_12.wellSaid=true:=by
 unfold OpenLaw.wellSaid OpenRow.wellSaid OpenRow.partSaid looksOpen
 with_reducible repeat' (refine look_both ?_ ?_)
 all_goals decide +kernel
set_option maxRecDepth 100000 in
theorem Uj:y8 PySem.Challenge.rw_uf010037_12.row.prog.main.body:=fun c b ps h p hp=>by
 have hc:=rA h;rw[show jU PySem.Challenge.rw_uf010037_12.row.prog.main.body=[Str.ofString "ViewError", Str.ofString "BadView", Str.ofString "BadText"] from by kernel_rfl] at hc;simp only[List.mem_cons,List.not_mem_nil,or_false] at hc;rcases hc with rfl | rfl | rfl
 ·rw[show bE (Str.ofString "ViewError") PySem.Challenge.rw_uf010037_12.row.prog.main.body=some (Str.ofString "ValueError", none) from by kernel_rfl] at h;cases h
 ·rw[show bE (Str.ofString "BadView") PySem.Challenge.rw_uf010037_12.row.prog.main.body=some (Str.ofString "ViewError", none) from by kernel_rfl] at h;cases h
 ·rw[show bE (Str.ofString "BadText") PySem.Challenge.rw_uf010037_12.row.prog.main.body=some (Str.ofString "ViewError", none) from by kernel_rfl] at h;cases h
end Mine
open PySem PySem.W PyProof.Rows Mine
set_option maxRecDepth 100000 in
set_option maxHeartbeats 8000000 in
theorem PySem.Challenge.cw_uf010037_12_holds : PySem.Challenge.rw_uf010037_12.Holds := by
 refine holds_law Mine.Ui fun said=>?_;refine holds_open (q:=Mine.V12) (loose:=[]) (Xt:=fun s=>(xlAt Mine.V12 [] s&&recOk (RowW.records PySem.Challenge.rw_uf010037_12.row.toRowW) s)&&Mine.pR s.heap PySem.Challenge.rw_uf010037_12.row.prog.main.body) (XP:=fun mg h=>XL Mine.V12 [] mg h∧Mine.iI PySem.Challenge.rw_uf010037_12.row.prog.main.body mg h) (Yf:=Hook.obs Hook.none) (Ya:=Hook.val Hook.none) (YP:=Hook.says Hook.none) (N:=3960)
  Mine.Gg (Hook.of Hook.none) (Hook.keeps Hook.none) (fun s e=>⟨xl_of s (Bool.and_eq_true_iff.mp (Bool.and_eq_true_iff.mp e).1).1,Mine.Mw (Bool.and_eq_true_iff.mp e).2⟩) (fun mg h h' x k=>⟨XL.keeps mg h h' x.1 k,x.2.keeps k⟩) (by rfl) (by rfl) (by rfl) (fun s e=>recFacts_of (Bool.and_eq_true_iff.mp (Bool.and_eq_true_iff.mp e).1).2) (by rfl) said (by decide +kernel) ⟨rfl,rfl,rfl,rfl,rfl,by decide +kernel⟩ ?hw ?hc
 case hw=>w_witness2
 intro w s₀ s₁ mg mb G Y fa o pm cd doc dV kV ho hd hcd hD hmg hg args vals as hpre hlay hrd hwl hlo;have GL:Mine.Glo PySem.Challenge.rw_uf010037_12.row.prog w mg mb s₁.heap:=Mine.M3 G.T G.X.2 Mine.Uj (fun f=>by kernel_rfl) (by kernel_rfl) (by kernel_rfl) (by kernel_rfl);replace hmg:mg (Str.ofString "law")=some (.ref fa):=hmg;clear ho hd hcd hD G Y
 wrow_args hpre hlay hrd hwl hlo
 rename_i ns _ _ _ _ _ _ _ l _ _ _ _ hw _ _ _ hn _;refine Mine.M5 GL hmg hw (by omega) (by kernel_rfl) (N:=400) (by decide) (Mine.Uh ns) fun s' k=>?_;obtain⟨h',tk,rfl,hk⟩:=k;exact GoodW.toG ⟨.inl ⟨_,.bool true,[],rfl,fun _=>by kernel_rfl,.bool true,by kernel_rfl,fun _=>⟨List.nodup_nil,by simp⟩⟩,hk,rfl,hg⟩
